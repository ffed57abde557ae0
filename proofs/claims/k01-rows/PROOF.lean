import PyProof.Rows.All
import Wide.All
import OpenK.AllK
import Wide.FinOn
import KE.KStateDown
import HandS.ForMost
import HandS.ForExc
import HandS.Defaults
import HandS.CallSlots
import HandS.Flow
import HandS.Style
import HandS.TupAny
import HandS.TupMul
import HandS.IsInst
import HandS.Zip
import HandS.Iter
import HandS.Conv
import HandS.Codes
import HandS.TryMany
import HandS.TryOnly
import HandS.SortInts
import KE.SortData
import KE.DataMinMax
import KE.KTupSum
import KE.KSortedM
import HandS.Head0
import HandS.Head1
import HandS.Head2
import HandS.HeadEnd
import HandS.HeadHook1
import HandS.HeadHook2
import KE.KExcSuper
import KE.KExcIs
import HandS.ExcInit
import HandS.ExcField
import HandS.ExcIs
import KE.GoesMore
import KE.GoesEnum
import HandS.Dict
import PySem.Challenge.RW_slopekinds_k01_rows
set_option Elab.async false
set_option linter.all false
set_option maxRecDepth 100000
set_option maxHeartbeats 4000000
namespace Ev
open PySem PySem.Spec PyProof.Rows L2
/-! ### data -/
inductive D where
  | non | bl (b : Bool) | int (i : Int) | str (s : Str) | tup (l : List D) | lst (l : List D) | scr (l : List Int) | drw
/-- kinds of a value: shared (never changed from now on), loose (a list that a name of this frame owns), fresh (a list that nobody else has) -/
inductive Kd where
  | sh | lo | fr
  deriving DecidableEq
abbrev VD := Kd × D
abbrev dat (xs : List VD) : List D := xs.map fun x => x.2
/-- the draw: cells, place, rest, seed -/
structure Drw where
  c : List Int
  p : Int
  r : Int
  s : Int
abbrev Sg := Option Drw
/-- an exception: its class's number, its field -/
structure Exn where
  c : Nat
  f : Option D
inductive Out (α : Type) where
  | ok (a : α) (s : Sg) | ex (x : Exn) (s : Sg) | stk
def Out.bind {α β : Type} : Out α → (α → Sg → Out β) → Out β
  | .ok a s, f => f a s
  | .ex x s, _ => .ex x s
  | .stk, _ => .stk
/-- a pure part -/
def lift {α : Type} (o : Option α) (s : Sg) : Out α := match o with
  | some a => .ok a s
  | none => .stk
abbrev Env := List (Option (Bool × D))
/-! ### the small syntax -/
inductive Op where
  | add | sub | mul | fdiv | mod | pow
  deriving DecidableEq
inductive Cm where
  | eq | ne | lt | le | gt | ge | is_ | isnt | in_ | notin
  deriving DecidableEq
inductive Bf where
  | len | abs | int | max | min | sum | sorted | all | any | tuple | list
  deriving DecidableEq
inductive Ty where
  | int | bool | str | tuple | list
  deriving DecidableEq
inductive Mt where
  | index | split
  deriving DecidableEq
inductive IK where
  | seq | rg1 | rg2 | rg3 | en | zp
  deriving DecidableEq
/-- a pure target -/
inductive Tg where
  | nm (i : Nat) | tu (ts : List Tg)
inductive E where
  | k (d : D) | v (i : Nat) | g (i : Nat)
  | op (o : Op) (a b : E) | neg (a : E)
  | cmp (o : Cm) (a b : E) | chn (o o' : Cm) (a b c : E)
  | and_ (a b : E) | or_ (a b : E) | not_ (a : E) | ite (c a b : E)
  | tup (es : List E) | lst (es : List E)
  | ix (a b : E) | sl (a : E) (lo hi : List E) | rev (a : E)
  | bc (f : Bf) (es : List E) | isi (t : Ty) (a : E) | rng (tu : Bool) (es : List E)
  | call (f : Nat) (es : List E) | sel (fs : List Nat) (i : E) (es : List E)
  | mth (m : Mt) (o : E) (es : List E)
  | lc (elt : E) (tg : Tg) (k : IK) (ies : List E) (cs : List E) (own : List Nat)
  | lc2 (elt : E) (tg : Tg) (k : IK) (ies : List E) (cs : List E) (tg1 : Tg) (k1 : IK) (ies1 : List E) (cs1 : List E) (own own1 : List Nat)
/-- what an except suite says of the caught exception: its field, (z, its field), a + its field + b, a or b by its class, its field or b by its class -/
inductive HX where
  | fld | pr (z : D) | cat (a b : Str) | ifk (j : Nat) (a b : Str) | iff_ (j : Nat) (b : Str)
inductive S where
  | lk (is : List Nat) (s : S)
  | asg (t : Tg) (e : E) | par (ts : List Tg) (es : List E) | aug (i : Nat) (o : Op) (e : E)
  | set (i : Nat) (e v : E) | augs (i : Nat) (e : E) (o : Op) (v : E)
  | psub (ts : List (Nat × List E)) (es : List E)
  | app (i : Nat) (e : E) | ext (i : Nat) (e : E) | pop (i : Nat)
  | ex (e : E) | ret (e : E) | ret0
  | ifs (c : E) (a b : List S)
  | for_ (tg : Tg) (k : IK) (ies : List E) (body : List S)
  | whl (c : E) (body : List S)
  | rse (c : Nat) (es : List E)
  | try_ (body : List S) (hs : List (Nat × List S))
  | hx (i : Nat) (h : HX)
  | brk | cnt | pas
/-! ### the operations on data -/
mutual
/-- == of data -/
def eqD : D → D → Bool
  | .non, .non => true
  | .bl a, .bl b => a == b
  | .bl a, .int j => (if a then 1 else 0) == j
  | .int i, .bl b => i == (if b then 1 else 0)
  | .int i, .int j => i == j
  | .str x, .str y => x == y
  | .lst xs, .lst ys => eqDs xs ys
  | .tup xs, .tup ys => eqDs xs ys
  | _, _ => false
def eqDs : List D → List D → Bool
  | [], [] => true
  | x :: xs, y :: ys => eqD x y && eqDs xs ys
  | _, _ => false
end
mutual
/-- data that == knows, at most n deep -/
def plainD : Nat → D → Bool
  | _, .non => true
  | _, .bl _ => true
  | _, .int _ => true
  | _, .str _ => true
  | 0, .tup _ => false
  | n + 1, .tup l => plainDs n l
  | 0, .lst _ => false
  | n + 1, .lst l => plainDs n l
  | _, .scr _ => false
  | _, .drw => false
def plainDs : Nat → List D → Bool
  | _, [] => true
  | n, d :: r => plainD n d && plainDs n r
end
mutual
/-- no list within -/
def lf : D → Bool
  | .tup l => lfs l
  | .lst _ => false
  | .scr _ => false
  | _ => true
def lfs : List D → Bool
  | [] => true
  | d :: r => lf d && lfs r
end
def flatD : D → Bool
  | .non => true
  | .bl _ => true
  | .int _ => true
  | .str _ => true
  | _ => false
def truD : D → Option Bool
  | .non => some false
  | .bl b => some b
  | .int i => some (i != 0)
  | .str x => if x.length ≤ sizeLine then some ((x.length : Int) != 0) else none
  | .tup l => some (!l.isEmpty)
  | .lst l => some (!l.isEmpty)
  | _ => none
/-- the ints of a list of ints -/
def intsD : List D → Option (List Int)
  | [] => some []
  | .int i :: r => (intsD r).map (i :: ·)
  | _ => none
def blsD : List D → Option (List Bool)
  | [] => some []
  | .bl b :: r => (blsD r).map (b :: ·)
  | _ => none
def strsD : List D → Option (List Str)
  | [] => some []
  | .str b :: r => (strsD r).map (b :: ·)
  | _ => none
def wideOk (i j : Int) : Bool := (decide (-(2 ^ 64) < i) && decide (i < 2 ^ 64)) || (decide (-(2 ^ 64) < j) && decide (j < 2 ^ 64))
def repD (n : Nat) (l : List D) : List D := (List.replicate n l).flatten
/-- a op b -/
def opD : Op → D → D → Option VD
  | .add, .int i, .int j => some (.sh, .int (i + j))
  | .add, .str x, .str y => if x.length + y.length ≤ sizeLine then some (.sh, .str (x ++ y)) else none
  | .add, .lst x, .lst y => if x.length + y.length ≤ sizeLine then some (.fr, .lst (x ++ y)) else none
  | .add, .tup x, .tup y => if x.length + y.length ≤ sizeLine then some (.sh, .tup (x ++ y)) else none
  | .sub, .int i, .int j => some (.sh, .int (i - j))
  | .mul, .int i, .int j => if wideOk i j then some (.sh, .int (i * j)) else none
  | .mul, .lst x, .int k => if -1000000000 ≤ k ∧ k ≤ 1000000000 ∧ x.length * k.toNat ≤ sizeLine then some (.fr, .lst (repD k.toNat x)) else none
  | .mul, .tup x, .int k => if x ≠ [] ∧ 1 ≤ k ∧ k ≤ 1000 ∧ x.length ≤ 1000 then some (.sh, .tup (repD k.toNat x)) else none
  | .fdiv, .int i, .int j => if j ≠ 0 ∧ j.natAbs < 1073741824 then some (.sh, .int (i.fdiv j)) else none
  | .mod, .int i, .int j => if j ≠ 0 then some (.sh, .int (i.fmod j)) else none
  | _, _, _ => none
def inD (x : D) (l : List D) : Bool := l.any fun y => eqD y x
def lexD : List Int → List Int → Bool := HT.lexLt
def cmD : Cm → D → D → Option Bool
  | .eq, x, y => if plainD 60 x && plainD 60 y then some (eqD x y) else none
  | .ne, x, y => if plainD 60 x && plainD 60 y then some (!eqD x y) else none
  | .lt, .int i, .int j => some (decide (i < j))
  | .le, .int i, .int j => some (decide (i ≤ j))
  | .gt, .int i, .int j => some (decide (j < i))
  | .ge, .int i, .int j => some (decide (j ≤ i))
  | .lt, .tup x, .tup y => (intsD x).bind fun a => (intsD y).map fun b => HT.lexLt a b
  | .is_, x, .non => some (match x with | .non => true | _ => false)
  | .isnt, x, .non => some (match x with | .non => false | _ => true)
  | .is_, .bl a, .bl b => some (decide (a = b))
  | .isnt, .bl a, .bl b => some (!decide (a = b))
  | .in_, x, .lst l => if flatD x && l.all flatD then some (inD x l) else if plainD 60 x && plainDs 59 l then some (inD x l) else none
  | .in_, x, .tup l => if flatD x && l.all flatD then some (inD x l) else if plainD 60 x && plainDs 59 l then some (inD x l) else none
  | .notin, x, .lst l => if flatD x && l.all flatD then some (!inD x l) else if plainD 60 x && plainDs 59 l then some (!inD x l) else none
  | .notin, x, .tup l => if flatD x && l.all flatD then some (!inD x l) else if plainD 60 x && plainDs 59 l then some (!inD x l) else none
  | _, _, _ => none
/-- a[i] -/
def ixD : D → D → Option D
  | .tup l, .int i => atI l i
  | .lst l, .int i => atI l i
  | .str z, .int i => if z.length ≤ sizeLine then (atI z.cps.toList i).map fun c => .str ⟨#[c]⟩ else none
  | _, _ => none
def cutD (l : List D) (lo hi : Option Int) : List D := (l.drop (HT.sIx l.length 0 lo)).take (HT.sIx l.length l.length hi - HT.sIx l.length 0 lo)
def slD : D → Option Int → Option Int → Option VD
  | .tup l, lo, hi => some (.sh, .tup (cutD l lo hi))
  | .lst l, lo, hi => some (.fr, .lst (cutD l lo hi))
  | _, _, _ => none
/-- the greatest, the least of ints, none if there are none -/
def maxI : List Int → Option Int
  | [] => none
  | x :: r => some (r.foldl (fun a b => if b > a then b else a) x)
def minI : List Int → Option Int
  | [] => none
  | x :: r => some (r.foldl (fun a b => if b < a then b else a) x)
/-! data of the library -/
mutual
def toP : D → PyData
  | .non => .none
  | .bl b => .bool b
  | .int i => .int i
  | .str x => .str x
  | .tup l => .tuple (toPs l)
  | .lst l => .list (toPs l)
  | .scr _ => .none
  | .drw => .none
def toPs : List D → List PyData
  | [] => []
  | d :: r => toP d :: toPs r
end
def tupB : PyData → Bool
  | .tuple (_ :: _) => true
  | _ => false
def ntB : PyData → Bool
  | .tuple _ => false
  | .none => false
  | _ => true
/-- what sorted takes -/
def sortOk (l : List D) : Bool := plainDs 50 l && (((toPs l).all fun a => (toPs l).all fun b => PySem.W.alike a b) && ((toPs l).all tupB || (toPs l).all ntB))
def sortD (l : List D) : List D := l.mergeSort (PySem.W.dataLe false toP)
def sortI (l : List Int) : List Int := l.mergeSort (fun a b => decide (a ≤ b))
def sortL (l : List D) : Option (List D) := match intsD l with
  | some ns => if ns.length ≤ sizeLine then some ((sortI ns).map .int) else none
  | none => if sortOk l && decide (l.length ≤ sizeLine) then some (sortD l) else none
def isiD : Ty → D → Option Bool
  | .int, .int _ => some true
  | .int, .bl _ => some true
  | .bool, .bl _ => some true
  | .str, .str _ => some true
  | .tuple, .tup _ => some true
  | .list, .lst _ => some true
  | _, .scr _ => none
  | _, .drw => none
  | _, _ => some false
def absI (i : Int) : Int := if i < 0 then -i else i
/-- a built-in function -/
def bcD : Bf → List D → Option VD
  | .len, [.str z] => if z.length ≤ sizeLine then some (.sh, .int z.length) else none
  | .len, [.tup l] => some (.sh, .int l.length)
  | .len, [.lst l] => some (.sh, .int l.length)
  | .abs, [.int i] => some (.sh, .int (absI i))
  | .int, [.int i] => some (.sh, .int i)
  | .int, [.bl b] => some (.sh, .int (if b then 1 else 0))
  | .max, [.int i, .int j] => some (.sh, .int (if j > i then j else i))
  | .min, [.int i, .int j] => some (.sh, .int (if j < i then j else i))
  | .max, [.lst l] => ((intsD l).bind maxI).map fun i => (.sh, .int i)
  | .min, [.lst l] => ((intsD l).bind minI).map fun i => (.sh, .int i)
  | .max, [.tup l] => ((intsD l).bind maxI).map fun i => (.sh, .int i)
  | .min, [.tup l] => ((intsD l).bind minI).map fun i => (.sh, .int i)
  | .sum, [.lst l] => (intsD l).map fun ns => (.sh, .int ns.sum)
  | .sum, [.tup l] => (intsD l).map fun ns => (.sh, .int ns.sum)
  | .sorted, [.lst l] => (sortL l).map fun r => (.fr, .lst r)
  | .sorted, [.tup l] => (sortL l).map fun r => (.fr, .lst r)
  | .all, [.lst l] => (blsD l).map fun bs => (.sh, .bl (bs.all id))
  | .any, [.lst l] => (blsD l).map fun bs => (.sh, .bl (bs.any id))
  | .tuple, [.lst l] => some (.sh, .tup l)
  | .tuple, [.tup l] => some (.sh, .tup l)
  | .list, [.lst l] => some (.fr, .lst l)
  | .list, [.tup l] => some (.fr, .lst l)
  | _, _ => none
def rngI (a b : Int) : List D := (List.range (b - a).toNat).map fun i => .int (a + (i : Nat))
/-- range(a, b, -1) -/
def rngD (a b : Int) : List D := (List.range (a - b).toNat).map fun i => .int (a - (i : Nat))
def rgOk (a b : Int) : Bool := decide (-4000000000000000000 ≤ a) && decide (a ≤ 4000000000000000000) && decide (-4000000000000000000 ≤ b) && decide (b ≤ 4000000000000000000)
/-- what a for walks -/
def itD : IK → List D → Option (List D)
  | .seq, [.lst l] => some l
  | .seq, [.tup l] => some l
  | .seq, [.scr l] => some (l.map .int)
  | .rg1, [.int b] => if rgOk 0 b then some (rngI 0 b) else none
  | .rg2, [.int a, .int b] => if rgOk a b then some (rngI a b) else none
  | .rg3, [.int a, .int b, .int c] => if c = -1 then (if rgOk a b then some (rngD a b) else none) else none
  | .en, [.lst l] => some (l.zipIdx.map fun p => .tup [.int p.2, p.1])
  | .en, [.tup l] => some (l.zipIdx.map fun p => .tup [.int p.2, p.1])
  | .zp, [.lst l, .lst r] => some ((l.zip r).map fun p => .tup [p.1, p.2])
  | .zp, [.tup l, .tup r] => some ((l.zip r).map fun p => .tup [p.1, p.2])
  | _, _ => none
def mtD : Mt → D → List D → Option VD
  | .index, .lst l, [x] => if flatD x && l.all flatD then (l.findIdx? fun y => eqD y x).map fun j => (.sh, .int (j : Nat)) else none
  | .split, .str z, [.str b] => if b.cps.toList ≠ [] ∧ b.cps.toList.all (· < 256) = true ∧ z.length + 2 ≤ sizeLine then some (.fr, .lst ((TL.spl b.cps.toList 0 [] z.cps.toList).map fun l => .str ⟨l.toArray⟩)) else none
  | _, _, _ => none
def mtOk : Mt → D → Bool
  | .index, .lst _ => true
  | .split, .str _ => true
  | _, _ => false
/-! ### targets -/
mutual
def asgD : Tg → D → Env → Option Env
  | .nm i, d, env => some (env.set i (some (false, d)))
  | .tu ts, .tup l, env => asgDs ts l env
  | .tu ts, .lst l, env => asgDs ts l env
  | _, _, _ => none
def asgDs : List Tg → List D → Env → Option Env
  | [], [], env => some env
  | t :: ts, d :: ds, env => (asgD t d env).bind fun e => asgDs ts ds e
  | _, _, _ => none
end
/-- a value at a target: a fresh list is owned -/
def asgV (t : Tg) (x : VD) (env : Env) : Option Env := match t, x with
  | .nm i, (.fr, d) => some (env.set i (some (true, d)))
  | .nm i, (.sh, d) => some (env.set i (some (false, d)))
  | _, (.lo, _) => none
  | t, (_, d) => asgD t d env
def wipeE (env : Env) : List Nat → Env
  | [] => env
  | i :: r => (wipeE env r).set i none
/-- names that own no more -/
def unown (env : Env) : List Nat → Env
  | [] => env
  | i :: r => match env[i]? with
    | some (some (true, d)) => unown (env.set i (some (false, d))) r
    | _ => unown env r
/-- what may be kept: shared or fresh -/
def keep : VD → Option D
  | (.lo, _) => none
  | (_, d) => some d
def keeps : List VD → Option (List D)
  | [] => some []
  | x :: r => (keep x).bind fun d => (keeps r).map (d :: ·)
/-- an argument: what is fresh is shared from now on -/
def settle : VD → VD
  | (.fr, d) => (.sh, d)
  | x => x
def isLo (x : VD) : Bool := match x.1 with
  | .lo => true
  | _ => false
def isFr (x : VD) : Bool := match x.1 with
  | .fr => true
  | _ => false
/-- lent lists beside fresh ones: not here -/
def mixed (xs : List VD) : Bool := xs.any isLo && xs.any isFr
/-! ### expressions -/
structure Cc where
  gl : List D
  /-- which class of errors lies below which -/
  sb : List (Nat × Nat)
  call : Nat → List VD → Sg → Out VD
  fuel : Nat
def noEx {α : Type} : Out α → Out α
  | .ok a s => .ok a s
  | _ => .stk
def lcLoop (asg : D → Env → Option Env) (one : Env → Sg → Out (List D)) : List D → Env → Sg → Out (List D)
  | [], _, s => .ok [] s
  | d :: r, env, s => match asg d env with
    | none => .stk
    | some e1 => (one e1 s).bind fun ds s2 => (lcLoop asg one r env s2).bind fun rs s3 => .ok (ds ++ rs) s3
def isSeq : IK → Bool
  | .seq => true
  | _ => false
/-- what is walked; a list that a name of this frame owns: only by itself -/
def itV (k : IK) (xs : List VD) : Option (List D) := if xs.any isLo && !(isSeq k) then none else itD k (dat xs)
/-- none that a name of this frame owns -/
def itW (k : IK) (xs : List VD) : Option (List D) := if xs.any isLo then none else itD k (dat xs)
def small (l : List D) (s : Sg) : Out VD := if l.length ≤ sizeLine then .ok (.fr, .lst l) s else .stk
def testsD (ts : List (Env → Sg → Out Bool)) (env : Env) (s : Sg) : Out Bool := match ts with
  | [] => .ok true s
  | [t] => t env s
  | _ => .stk
def ixV (x : VD) (y : VD) (s : Sg) : Out VD := match x.2, y.2, s with
  | .drw, .int i, some d => if i = 0 then .ok (.sh, .lst (d.c.map .int)) s else if i = 1 then .ok (.sh, .int d.p) s else if i = 2 then .ok (.sh, .int d.r) s else if i = 3 then .ok (.sh, .int d.s) s else .stk
  | a, b, s => lift ((ixD a b).map fun d => (.sh, d)) s
def oneI : List VD → Option (Option Int)
  | [] => some none
  | [(_, .int i)] => some (some i)
  | _ => none
mutual
def evE (c : Cc) : E → Env → Sg → Out VD
  | .k d, _, s => .ok (.sh, d) s
  | .v i, env, s => match env[i]? with
    | some (some (o, d)) => .ok (if o then .lo else .sh, d) s
    | _ => .stk
  | .g i, _, s => lift (c.gl[i]?.map fun d => (.sh, d)) s
  | .op o a b, env, s => (evE c a env s).bind fun x s1 => (evE c b env s1).bind fun y s2 => lift (opD o x.2 y.2) s2
  | .neg a, env, s => (evE c a env s).bind fun x s1 => match x.2 with
    | .int i => .ok (.sh, .int (-i)) s1
    | _ => .stk
  | .cmp o a b, env, s => (evE c a env s).bind fun x s1 => (evE c b env s1).bind fun y s2 => lift ((cmD o x.2 y.2).map fun k => (.sh, .bl k)) s2
  | .chn o o' a b d, env, s => (evE c a env s).bind fun x s1 => (evE c b env s1).bind fun y s2 => (lift (cmD o x.2 y.2) s2).bind fun k s3 =>
      if k then (evE c d env s3).bind fun z s4 => lift ((cmD o' y.2 z.2).map fun k => (.sh, .bl k)) s4 else .ok (.sh, .bl false) s3
  | .and_ a b, env, s => (evE c a env s).bind fun x s1 => (lift (truD x.2) s1).bind fun k s2 => if k then evE c b env s2 else .ok x s2
  | .or_ a b, env, s => (evE c a env s).bind fun x s1 => (lift (truD x.2) s1).bind fun k s2 => if k then .ok x s2 else evE c b env s2
  | .not_ a, env, s => (evE c a env s).bind fun x s1 => (lift (truD x.2) s1).bind fun k s2 => .ok (.sh, .bl (!k)) s2
  | .ite t a b, env, s => (evE c t env s).bind fun x s1 => (lift (truD x.2) s1).bind fun k s2 => if k then evE c a env s2 else evE c b env s2
  | .tup es, env, s => (evEs c es env s).bind fun xs s1 => (lift (keeps xs) s1).bind fun ds s2 => if ds.length ≤ 1000 then .ok (.sh, .tup ds) s2 else .stk
  | .lst es, env, s => (evEs c es env s).bind fun xs s1 => (lift (keeps xs) s1).bind fun ds s2 => if ds.length ≤ 1000 then .ok (.fr, .lst ds) s2 else .stk
  | .ix a b, env, s => (evE c a env s).bind fun x s1 => (evE c b env s1).bind fun y s2 => ixV x y s2
  | .sl a lo hi, env, s => (evE c a env s).bind fun x s1 => ((evEs c lo env s1).bind fun l s2 => lift (oneI l) s2).bind fun l' s3 => ((evEs c hi env s3).bind fun h s4 => lift (oneI h) s4).bind fun h' s5 => lift (slD x.2 l' h') s5
  | .rev a, env, s => (evE c a env s).bind fun x s1 => match x.2 with
    | .lst l => .ok (.fr, .lst l.reverse) s1
    | .tup l => .ok (.sh, .tup l.reverse) s1
    | _ => .stk
  | .bc f es, env, s => (evEs c es env s).bind fun xs s1 => lift (bcD f (dat xs)) s1
  | .isi t a, env, s => (evE c a env s).bind fun x s1 => lift ((isiD t x.2).map fun k => (.sh, .bl k)) s1
  | .rng tu es, env, s => (evEs c es env s).bind fun xs s1 => match dat xs with
    | [.int b] => if rgOk 0 b && decide (b ≤ 1000000) then .ok (if tu then (.sh, .tup (rngI 0 b)) else (.fr, .lst (rngI 0 b))) s1 else .stk
    | [.int a, .int b] => if rgOk a b && decide (b - a ≤ 1000000) then .ok (if tu then (.sh, .tup (rngI a b)) else (.fr, .lst (rngI a b))) s1 else .stk
    | _ => .stk
  | .call f es, env, s => (evEs c es env s).bind fun xs s1 => if mixed xs then .stk else c.call f (xs.map settle) s1
  | .sel fs i es, env, s => (evE c i env s).bind fun x s1 => match x.2 with
    | .int i => match atI fs i with
      | some f => (evEs c es env s1).bind fun xs s2 => if mixed xs then .stk else c.call f (xs.map settle) s2
      | none => .stk
    | _ => .stk
  | .mth m o es, env, s => (evE c o env s).bind fun x s1 => if mtOk m x.2 then (evEs c es env s1).bind fun xs s2 => lift (mtD m x.2 (dat xs)) s2 else .stk
  | .lc elt tg k ies cs own, env, s => (evEs c ies env s).bind fun xs s1 => (lift (itV k xs) s1).bind fun items s2 =>
      (noEx (lcLoop (asgD tg) (fun e s => (testsD (evTs c cs) e s).bind fun b s1 => if b then (evE c elt e s1).bind fun x s2 => lift ((keep x).map fun d => [d]) s2 else .ok [] s1) items (wipeE env own) s2)).bind fun ds s3 => small ds s3
  | .lc2 elt tg k ies cs tg1 k1 ies1 cs1 own own1, env, s => (evEs c ies env s).bind fun xs s1 => (lift (itV k xs) s1).bind fun items s2 =>
      (noEx (lcLoop (asgD tg) (fun e s => (testsD (evTs c cs) e s).bind fun b s1 => if b then (evEs c ies1 e s1).bind fun xs s2 => (lift (itW k1 xs) s2).bind fun items1 s3 =>
        lcLoop (asgD tg1) (fun e s => (testsD (evTs c cs1) e s).bind fun b s1 => if b then (evE c elt e s1).bind fun x s2 => lift ((keep x).map fun d => [d]) s2 else .ok [] s1) items1 (wipeE e own1) s3 else .ok [] s1) items (wipeE env own) s2)).bind fun ds s3 => small ds s3
def evEs (c : Cc) : List E → Env → Sg → Out (List VD)
  | [], _, s => .ok [] s
  | e :: r, env, s => (evE c e env s).bind fun x s1 => (evEs c r env s1).bind fun xs s2 => .ok (x :: xs) s2
/-- the tests of a clause -/
def evTs (c : Cc) : List E → List (Env → Sg → Out Bool)
  | [] => []
  | e :: r => (fun env s => (evE c e env s).bind fun x s1 => lift (truD x.2) s1) :: evTs c r
end
/-- a test -/
def evT (c : Cc) (e : E) (env : Env) (s : Sg) : Out Bool := (evE c e env s).bind fun x s1 => lift (truD x.2) s1
end Ev
set_option Elab.async false
set_option linter.all false
set_option maxRecDepth 100000
set_option maxHeartbeats 4000000
namespace Ev
open PySem PySem.Spec PyProof.Rows L2
/-! ### statements -/
inductive SR where
  | nx (e : Env) (s : Sg) | rt (x : VD) (s : Sg) | bk (e : Env) (s : Sg) | ct (e : Env) (s : Sg) | ex (x : Exn) (e : Env) (s : Sg) | stk
def Out.sr {α : Type} : Out α → Env → (α → Sg → SR) → SR
  | .ok a s, _, f => f a s
  | .ex x s, env, _ => .ex x env s
  | .stk, _, _ => .stk
def optS (o : Option Env) (s : Sg) : SR := match o with
  | some e => .nx e s
  | none => .stk
def asgVs : List Tg → List VD → Env → Option Env
  | [], [], env => some env
  | t :: ts, x :: xs, env => (asgV t x env).bind fun e => asgVs ts xs e
  | _, _, _ => none
/-- the names of a row of targets, no one twice -/
def flatT : Tg → List Nat
  | .nm i => [i]
  | _ => []
def setV (i : Nat) (j : D) (x : VD) (env : Env) (s : Sg) : Option (Env × Sg) := match env[i]?, j with
  | some (some (true, .lst l)), .int k => (ixN l.length k).bind fun m => (keep x).map fun d => (env.set i (some (true, .lst (l.set m d))), s)
  | some (some (false, .drw)), .int k => match s, x.2 with
    | some d, .int y => if k = 1 then some (env, some { d with p := y }) else if k = 2 then some (env, some { d with r := y }) else if k = 3 then some (env, some { d with s := y }) else none
    | _, _ => none
  | _, _ => none
def setS (i : Nat) (j : D) (x : VD) (env : Env) (s : Sg) : SR := match setV i j x env s with
  | some (e, s') => .nx e s'
  | none => .stk
def owned (env : Env) (i : Nat) : Option (List D) := match env[i]? with
  | some (some (true, .lst l)) => some l
  | _ => none
/-- a loop over items -/
def forL (asg : D → Env → Option Env) (body : Env → Sg → SR) : List D → Env → Sg → SR
  | [], env, s => .nx env s
  | d :: r, env, s => match asg d env with
    | none => .stk
    | some e1 => match body e1 s with
      | .nx e2 s2 => forL asg body r e2 s2
      | .ct e2 s2 => forL asg body r e2 s2
      | .bk e2 s2 => .nx e2 s2
      | .rt x s2 => .rt x s2
      | .ex x e2 s2 => .ex x e2 s2
      | .stk => .stk
def whlL (tst : Env → Sg → Out Bool) (body : Env → Sg → SR) : Nat → Env → Sg → SR
  | 0, _, _ => .stk
  | n + 1, env, s => (tst env s).sr env fun b s1 => if b then (match body env s1 with
      | .nx e2 s2 => whlL tst body n e2 s2
      | .ct e2 s2 => whlL tst body n e2 s2
      | .bk e2 s2 => .nx e2 s2
      | .rt x s2 => .rt x s2
      | .ex x e2 s2 => .ex x e2 s2
      | .stk => .stk) else .nx env s1
def SR.seq : SR → (Env → Sg → SR) → SR
  | .nx e s, f => f e s
  | r, _ => r
/-- a value that leaves the frame -/
def leaves : VD → VD
  | (.lo, d) => (.fr, d)
  | x => x
def augV (i : Nat) (o : Op) (x : VD) (env : Env) : Option Env := match env[i]? with
  | some (some (false, a)) => if flatD a then (opD o a x.2).bind fun r => match r with
    | (.sh, d) => some (env.set i (some (false, d)))
    | _ => none else none
  | _ => none
def flatAt (env : Env) (i : Nat) : Bool := match env[i]? with
  | some (some (false, a)) => flatD a
  | _ => false
/-- a suite that says a word of the caught exception -/
def hxOf : List S → Option HX
  | [.hx _ h] => some h
  | _ => none
def hxD (sb : List (Nat × Nat)) (x : Exn) : HX → Option D
  | .fld => x.f
  | .pr z => x.f.map fun d => .tup [z, d]
  | .cat a b => match x.f with
    | some (.str y) => if a.length + y.length ≤ sizeLine ∧ (a ++ y).length + b.length ≤ sizeLine then some (.str (a ++ y ++ b)) else none
    | _ => none
  | .ifk j a b => some (.str (if sb.contains (x.c, j) then a else b))
  | .iff_ j b => if sb.contains (x.c, j) then x.f else some (.str b)
def hxR (sb : List (Nat × Nat)) (h : HX) (x : Exn) (s : Sg) : SR := match hxD sb x h with
  | some d => .rt (.sh, d) s
  | none => .stk
def noExS : SR → SR
  | .ex _ _ _ => .stk
  | r => r
def augI (o : Op) (a y : Int) : Option Int := match o with
  | .add => some (a + y)
  | .sub => some (a - y)
  | _ => none
/-- names and places, one after another -/
def tgsV (c : Cc) : List (Nat × List E) → List D → Env → Sg → SR
  | [], [], env, s => .nx env s
  | (i, es) :: ts, d :: ds, env, s => match es with
    | [] => tgsV c ts ds (env.set i (some (false, d))) s
    | [e] => if (env[i]?.bind id).isSome then (evE c e env s).sr env fun j s1 => match setV i j.2 (.sh, d) env s1 with
      | some (e', s') => tgsV c ts ds e' s'
      | none => .stk else .stk
    | _ => .stk
  | _, _, _, _ => .stk
mutual
def evS (c : Cc) : S → Env → Sg → SR
  | .lk is s, env, st => evS c s (unown env is) st
  | .asg t e, env, s => (evE c e env s).sr env fun x s1 => optS (asgV t x env) s1
  | .par ts es, env, s => (evEs c es env s).sr env fun xs s1 => optS (asgVs ts xs env) s1
  | .aug i o e, env, s => if flatAt env i then (evE c e env s).sr env fun x s1 => optS (augV i o x env) s1 else .stk
  | .set i e v, env, s => if (env[i]?.bind id).isSome then (evE c v env s).sr env fun x s1 => (evE c e env s1).sr env fun j s2 => setS i j.2 x env s2 else .stk
  | .augs i e o v, env, s => match owned env i with
    | some l => (evE c e env s).sr env fun j s1 => match ixD (.lst l) j.2 with
      | some (.int a) => (evE c v env s1).sr env fun x s2 => (match x.2 with
        | .int y => (match augI o a y with
          | some z => setS i j.2 (.sh, .int z) env s2
          | none => .stk)
        | _ => .stk)
      | _ => .stk
    | none => .stk
  | .psub ts es, env, s => (evE c (.tup es) env s).sr env fun x s1 => match x.2 with
    | .tup ds => if ds.length = ts.length then tgsV c ts ds env s1 else .stk
    | _ => .stk
  | .app i e, env, s => match owned env i with
    | some l => (evE c e env s).sr env fun x s1 => match keep x with
      | some d => if l.length < sizeLine then .nx (env.set i (some (true, .lst (l ++ [d])))) s1 else .stk
      | none => .stk
    | none => .stk
  | .ext i e, env, s => match owned env i with
    | some l => (evE c e env s).sr env fun x s1 => match x.2 with
      | .lst r => if l.length + r.length ≤ sizeLine then .nx (env.set i (some (true, .lst (l ++ r)))) s1 else .stk
      | _ => .stk
    | none => .stk
  | .pop i, env, s => match owned env i with
    | some l => if l.length = 0 then .stk else .nx (env.set i (some (true, .lst l.dropLast))) s
    | none => .stk
  | .ex e, env, s => (evE c e env s).sr env fun _ s1 => .nx env s1
  | .ret e, env, s => (evE c e env s).sr env fun x s1 => .rt (leaves x) s1
  | .ret0, env, s => .rt (.sh, .non) s
  | .ifs t a b, env, s => (evT c t env s).sr env fun k s1 => if k then evSs c a env s1 else evSs c b env s1
  | .for_ tg k ies body, env, s => (evEs c ies env s).sr env fun xs s1 => (lift (itW k xs) s1).sr env fun items s2 => forL (asgD tg) (evSs c body) items env s2
  | .whl t body, env, s => whlL (evT c t) (evSs c body) c.fuel env s
  | .rse n es, env, s => match es with
    | [] => .ex ⟨n, none⟩ env s
    | e :: _ => (evE c e env s).sr env fun x s1 => match x.2 with
      | .str z => .ex ⟨n, some (.str z)⟩ env s1
      | _ => .stk
  | .hx _ _, _, _ => .stk
  | .try_ body hs, env, s => match evSs c body env s with
    | .ex x e s1 => evH c hs x e s1
    | r => r
  | .brk, env, s => .bk env s
  | .cnt, env, s => .ct env s
  | .pas, env, s => .nx env s
def evSs (c : Cc) : List S → Env → Sg → SR
  | [], env, s => .nx env s
  | t :: r, env, s => (evS c t env s).seq fun e s1 => evSs c r e s1
def evH (c : Cc) : List (Nat × List S) → Exn → Env → Sg → SR
  | [], x, env, s => .ex x env s
  | (n, suite) :: r, x, env, s => if c.sb.contains (x.c, n) then (match hxOf suite with
    | some h => hxR c.sb h x s
    | none => noExS (evSs c suite env s)) else evH c r x env s
end
/-! ### defs -/
structure Fn where
  n : Nat
  np : Nat
  body : List S
def envOf (fn : Fn) (xs : List VD) : Env := (xs.map fun x => some (false, x.2)) ++ List.replicate (fn.n - fn.np) none
/-- behind a call that was lent a list -/
def lent (b : Bool) (x : VD) : Option VD := if b then (match x with
  | (.fr, .lst l) => if lfs l then some (.fr, .lst l) else none
  | x => if lf x.2 then some (.sh, x.2) else none) else some x
def backF (b : Bool) : SR → Out VD
  | .nx _ s => .ok (.sh, .non) s
  | .rt x s => lift (lent b x) s
  | .ex x _ s => .ex x s
  | _ => .stk
def evC (P : List Fn) (gl : List D) (sb : List (Nat × Nat)) (fuel : Nat) : Nat → Nat → List VD → Sg → Out VD
  | 0, _, _, _ => .stk
  | n + 1, f, xs, s => match P[f]? with
    | none => .stk
    | some fn => if xs.length = fn.np then backF (xs.any isLo) (evSs ⟨gl, sb, evC P gl sb fuel n, fuel⟩ fn.body (envOf fn xs) s) else .stk
end Ev
set_option Elab.async false
set_option linter.all false
set_option maxRecDepth 100000
set_option maxHeartbeats 4000000
namespace Ev
open PySem PySem.Spec PyProof.Rows L2
/-! ### what data stand for -/
def Sub (G H : Hp) : Prop := ∀ a o, G a = some o → H a = some o
theorem Sub.refl (G : Hp) : Sub G G := fun _ _ h => h
theorem Sub.trans {A B C : Hp} (h : Sub A B) (k : Sub B C) : Sub A C := fun a o e => k a o (h a o e)
theorem Sub.rd {G H : Hp} (h : Sub G H) {a : Addr} {u : HO} (r : Rd G a u) : Rd H a u := by
  rcases r with r | ⟨o, r⟩
  · exact .inl (h _ _ r)
  · exact .inr ⟨o, h _ _ r⟩
theorem Sub.sqL {K : PySem.W.Frag} {G H : Hp} (h : Sub G H) {a : Addr} {xs : List V} (r : SqL K G a xs) : SqL K H a xs := by
  rcases r with r | r
  · exact .inl (h.rd r)
  · exact .inr r
theorem Sub.sqT {K : PySem.W.Frag} {G H : Hp} (h : Sub G H) {a : Addr} {xs : List V} (r : SqT K G a xs) : SqT K H a xs := by
  rcases r with r | r
  · exact .inl (h.rd r)
  · exact .inr r
theorem Sub.upd {G : Hp} {a : Addr} {o : HO} (h : G a = none) : Sub G (upd G a o) := fun b u e => by
  rw [upd_ne (ne_of_none e h)]; exact e
mutual
inductive RD (K : PySem.W.Frag) (ad : Option Addr) (G : Hp) : V → D → Prop
  | non : RD K ad G .non .non
  | bl (b : Bool) : RD K ad G (.bl b) (.bl b)
  | int (i : Int) : RD K ad G (.int i) (.int i)
  | str (x : Str) (h : PyData.canLay0 (.str x) = true) : RD K ad G (.str x) (.str x)
  | tup {a : Addr} {xs : List V} {ds : List D} (h : SqT K G a xs) (r : RDs K ad G xs ds) : RD K ad G (.ref a) (.tup ds)
  | lst {a : Addr} {xs : List V} {ds : List D} (h : G a = some (.lst xs)) (r : RDs K ad G xs ds) : RD K ad G (.ref a) (.lst ds)
  | scr {a : Addr} {ns : List Int} (h : SqL K G a (ns.map V.int)) : RD K ad G (.ref a) (.scr ns)
  | drw {a : Addr} (h : ad = some a) : RD K ad G (.ref a) .drw
inductive RDs (K : PySem.W.Frag) (ad : Option Addr) (G : Hp) : List V → List D → Prop
  | nil : RDs K ad G [] []
  | cons {v : V} {vs : List V} {d : D} {ds : List D} (h : RD K ad G v d) (r : RDs K ad G vs ds) : RDs K ad G (v :: vs) (d :: ds)
end
section
variable {K : PySem.W.Frag} {ad : Option Addr} {G G' : Hp}
mutual
theorem RD.mono (s : Sub G G') : ∀ {v : V} {d : D}, RD K ad G v d → RD K ad G' v d
  | _, _, .non => .non
  | _, _, .bl b => .bl b
  | _, _, .int i => .int i
  | _, _, .str x h => .str x h
  | _, _, .tup h r => .tup (s.sqT h) (RDs.mono s r)
  | _, _, .lst h r => .lst (s _ _ h) (RDs.mono s r)
  | _, _, .scr h => .scr (s.sqL h)
  | _, _, .drw h => .drw h
theorem RDs.mono (s : Sub G G') : ∀ {vs : List V} {ds : List D}, RDs K ad G vs ds → RDs K ad G' vs ds
  | _, _, .nil => .nil
  | _, _, .cons h r => .cons (RD.mono s h) (RDs.mono s r)
end
theorem RDs.length : ∀ {vs : List V} {ds : List D}, RDs K ad G vs ds → vs.length = ds.length
  | _, _, .nil => rfl
  | _, _, .cons _ r => by simp [RDs.length r]
theorem RDs.get : ∀ {vs : List V} {ds : List D} {i : Nat} {d : D}, RDs K ad G vs ds → ds[i]? = some d → ∃ v, vs[i]? = some v ∧ RD K ad G v d
  | _, _, _, _, .nil, e => by simp at e
  | _, _, 0, _, .cons h _, e => by simp at e; subst e; exact ⟨_, rfl, h⟩
  | _, _, i + 1, _, .cons _ r, e => by
    obtain ⟨v, h1, h2⟩ := RDs.get (i := i) r (by simpa using e)
    exact ⟨v, by simpa using h1, h2⟩
theorem RDs.append : ∀ {vs ws : List V} {ds es : List D}, RDs K ad G vs ds → RDs K ad G ws es → RDs K ad G (vs ++ ws) (ds ++ es)
  | _, _, _, _, .nil, s => s
  | _, _, _, _, .cons h r, s => .cons h (RDs.append r s)
theorem RDs.drop : ∀ {vs : List V} {ds : List D} (n : Nat), RDs K ad G vs ds → RDs K ad G (vs.drop n) (ds.drop n)
  | _, _, 0, r => r
  | _, _, _ + 1, .nil => .nil
  | _, _, n + 1, .cons _ r => RDs.drop n r
theorem RDs.take : ∀ {vs : List V} {ds : List D} (n : Nat), RDs K ad G vs ds → RDs K ad G (vs.take n) (ds.take n)
  | _, _, 0, _ => .nil
  | _, _, _ + 1, .nil => .nil
  | _, _, n + 1, .cons h r => .cons h (RDs.take n r)
theorem RDs.set {v : V} {d : D} (h : RD K ad G v d) : ∀ {vs : List V} {ds : List D} (n : Nat), RDs K ad G vs ds → RDs K ad G (vs.set n v) (ds.set n d)
  | _, _, _, .nil => .nil
  | _, _, 0, .cons _ r => .cons h r
  | _, _, n + 1, .cons q r => .cons q (RDs.set h n r)
theorem RDs.reverse : ∀ {vs : List V} {ds : List D}, RDs K ad G vs ds → RDs K ad G vs.reverse ds.reverse
  | _, _, .nil => .nil
  | _, _, .cons h r => by
    rw [List.reverse_cons, List.reverse_cons]
    exact RDs.append (RDs.reverse r) (.cons h .nil)
theorem RDs.dropLast {vs : List V} {ds : List D} (r : RDs K ad G vs ds) : RDs K ad G vs.dropLast ds.dropLast := by
  rw [List.dropLast_eq_take, List.dropLast_eq_take, r.length]
  exact r.take _
theorem RDs.rep {vs : List V} {ds : List D} (r : RDs K ad G vs ds) : ∀ k : Nat, RDs K ad G (List.replicate k vs).flatten (List.replicate k ds).flatten
  | 0 => .nil
  | k + 1 => by
    rw [List.replicate_succ, List.replicate_succ, List.flatten_cons, List.flatten_cons]
    exact r.append (RDs.rep r k)
theorem RDs.ints : ∀ {vs : List V} {ds : List D} {ns : List Int}, RDs K ad G vs ds → intsD ds = some ns → vs = ns.map V.int
  | _, _, ns, .nil, e => by simp [intsD] at e; subst e; rfl
  | _, _, ns, .cons h r, e => by
    cases h with
    | int i =>
      simp only [intsD, Option.map_eq_some_iff] at e
      obtain ⟨m, e1, rfl⟩ := e
      rw [RDs.ints r e1]; rfl
    | _ => simp [intsD] at e
theorem RDs.bls : ∀ {vs : List V} {ds : List D} {ns : List Bool}, RDs K ad G vs ds → blsD ds = some ns → vs = ns.map V.bl
  | _, _, ns, .nil, e => by simp [blsD] at e; subst e; rfl
  | _, _, ns, .cons h r, e => by
    cases h with
    | bl i =>
      simp only [blsD, Option.map_eq_some_iff] at e
      obtain ⟨m, e1, rfl⟩ := e
      rw [RDs.bls r e1]; rfl
    | _ => simp [blsD] at e
theorem RDs.ofInts : ∀ (ns : List Int), RDs K ad G (ns.map V.int) (ns.map D.int)
  | [] => .nil
  | n :: r => .cons (.int n) (RDs.ofInts r)
end
/-! ### the state's relation -/
/-- what does not change while a law is proved: the written part, the draw's list, the classes of errors -/
structure Ct where
  K : PySem.W.Frag
  ad : Option Addr
  cd : Addr
  xc : List Addr
/-- the draw as it stands -/
def Rs (X : Ct) (s : Sg) (G H : Hp) : Prop := match X.ad, s with
  | none, none => True
  | some a, some d => G a = none ∧ H a = some (.lst [.ref X.cd, .int d.p, .int d.r, .int d.s]) ∧ G X.cd = some (.lst (d.c.map V.int))
  | _, _ => False
structure Stp (X : Ct) (G H : Hp) (s : Sg) (G' H' : Hp) (s' : Sg) : Prop where
  g : Sub G G'
  h : ∀ a o, H a = some o → X.ad ≠ some a → H' a = some o
  n : ∀ a, H' a = none → H a = none
  f : ∀ a, G a = none → H a ≠ none → G' a = none
  s : Sub G' H'
  r : Rs X s' G' H'
theorem Stp.trans {X : Ct} {G H G1 H1 G2 H2 : Hp} {s s1 s2 : Sg} (a : Stp X G H s G1 H1 s1) (b : Stp X G1 H1 s1 G2 H2 s2) : Stp X G H s G2 H2 s2 where
  g := a.g.trans b.g
  h := fun c o e k => b.h c o (a.h c o e k) k
  n := fun c e => a.n c (b.n c e)
  f := fun c e k => b.f c (a.f c e k) fun z => k (a.n c z)
  s := b.s
  r := b.r
theorem Stp.refl {X : Ct} {G H : Hp} {s : Sg} (a : Sub G H) (r : Rs X s G H) : Stp X G H s G H s :=
  ⟨Sub.refl _, fun _ _ e _ => e, fun _ e => e, fun _ e _ => e, a, r⟩
theorem Stp.same {X : Ct} {G0 H0 G H : Hp} {s0 s : Sg} (a : Stp X G0 H0 s0 G H s) : Stp X G H s G H s := .refl a.s a.r
/-- a new object that is tracked but not in the ground -/
theorem Rs.up {X : Ct} {s : Sg} {G H : Hp} {p : Addr} {o : HO} (r : Rs X s G H) (h : H p = none) : Rs X s G (upd H p o) := by
  unfold Rs at *
  cases e : X.ad with
  | none => cases s with
    | none => trivial
    | some d => rw [e] at r; exact r.elim
  | some a => cases s with
    | none => rw [e] at r; exact r.elim
    | some d =>
      rw [e] at r
      obtain ⟨k, q, z⟩ := r
      exact ⟨k, by rw [upd_ne (ne_of_none q h)]; exact q, z⟩
theorem Rs.ne {X : Ct} {s : Sg} {G H : Hp} (r : Rs X s G H) {a : Addr} (e : X.ad = some a) : G a = none ∧ H a ≠ none := by
  unfold Rs at r
  rw [e] at r
  cases s with
  | none => exact r.elim
  | some d =>
    obtain ⟨k, q, z⟩ := r
    exact ⟨k, by rw [q]; simp⟩
/-- .. and in the ground -/
theorem Rs.upG {X : Ct} {s : Sg} {G H : Hp} {p : Addr} {o : HO} (r : Rs X s G H) (h : X.ad ≠ some p) (g : G p = none) : Rs X s (upd G p o) H := by
  unfold Rs at *
  cases e : X.ad with
  | none => cases s with
    | none => trivial
    | some d => rw [e] at r; exact r.elim
  | some a => cases s with
    | none => rw [e] at r; exact r.elim
    | some d =>
      rw [e] at r
      obtain ⟨k, q, z⟩ := r
      have na : a ≠ p := fun z => h (by rw [e, z])
      exact ⟨by rw [upd_ne na]; exact k, q, by rw [upd_ne (ne_of_none z g)]; exact z⟩
theorem Stp.new {X : Ct} {G H G0 H0 : Hp} {s s0 : Sg} {p : Addr} {o : HO} (a : Stp X G0 H0 s0 G H s) (h : H p = none) : Stp X G0 H0 s0 G (upd H p o) s where
  g := a.g
  h := fun b u e k => by
    have := a.h b u e k
    rw [upd_ne (ne_of_none this h)]; exact this
  n := fun b e => a.n b (by
    by_cases hb : b = p
    · subst hb; exact h
    · rw [upd_ne hb] at e; exact e)
  f := a.f
  s := a.s.trans (Sub.upd h)
  r := a.r.up h
theorem Stp.adNe {X : Ct} {G H G0 H0 : Hp} {s s0 : Sg} (a : Stp X G0 H0 s0 G H s) {p : Addr} (h : H p = none) : X.ad ≠ some p := fun e => (a.r.ne e).2 h
/-- .. the same, in the ground too -/
theorem Stp.newG {X : Ct} {G H G0 H0 : Hp} {s s0 : Sg} {p : Addr} {o : HO} (a : Stp X G0 H0 s0 G H s) (h : H p = none) : Stp X G0 H0 s0 (upd G p o) (upd H p o) s where
  g := a.g.trans (Sub.upd (by
    cases q : G p with
    | none => rfl
    | some u => rw [a.s _ _ q] at h; cases h))
  h := (a.new h).h
  n := (a.new h).n
  f := fun b e k => by
    have nb : b ≠ p := fun z => k (a.n b (z ▸ h))
    rw [upd_ne nb]; exact a.f b e k
  s := fun b u e => by
    by_cases hb : b = p
    · subst hb; rw [upd_same] at e ⊢; exact e
    · rw [upd_ne hb] at e ⊢; exact a.s _ _ e
  r := (a.r.up h).upG (a.adNe h) (by
    cases q : G p with
    | none => rfl
    | some u => rw [a.s _ _ q] at h; cases h)
/-- a list that stands in H comes into the ground -/
theorem Stp.ground {X : Ct} {G H G0 H0 : Hp} {s s0 : Sg} {p : Addr} {o : HO} (a : Stp X G0 H0 s0 G H s) (h : H p = some o) (g : G p = none) (na : X.ad ≠ some p) (h0 : H0 p = none) : Stp X G0 H0 s0 (upd G p o) H s where
  g := a.g.trans (Sub.upd g)
  h := a.h
  n := a.n
  f := fun b e k => by
    have nb : b ≠ p := fun z => k (z ▸ h0)
    rw [upd_ne nb]; exact a.f b e k
  s := fun b u e => by
    by_cases hb : b = p
    · subst hb; rw [upd_same] at e; rw [← e]; exact h
    · rw [upd_ne hb] at e; exact a.s _ _ e
  r := a.r.upG na g
/-- a value: H0 the heap ahead of its expression, Hf the one ahead of the frame -/
def RV (X : Ct) (Hf H0 G H : Hp) (x : VD) (v : V) : Prop := match x with
  | (.sh, d) => RD X.K X.ad G v d
  | (k, d) => ∃ a xs ds, v = .ref a ∧ d = .lst ds ∧ H a = some (.lst xs) ∧ G a = none ∧ X.ad ≠ some a ∧ RDs X.K X.ad G xs ds ∧ Hf a = none ∧ (k = .fr → H0 a = none)
theorem RV.step {X : Ct} {Hf H0 G H G' H' : Hp} {s s' : Sg} {x : VD} {v : V} (r : RV X Hf H0 G H x v) (t : Stp X G H s G' H' s') : RV X Hf H0 G' H' x v := by
  obtain ⟨k, d⟩ := x
  cases k with
  | sh => exact RD.mono t.g r
  | lo =>
    obtain ⟨a, xs, ds, e1, e2, e3, e4, e5, e6, e7, e8⟩ := r
    exact ⟨a, xs, ds, e1, e2, t.h _ _ e3 e5, t.f _ e4 (by rw [e3]; simp), e5, e6.mono t.g, e7, e8⟩
  | fr =>
    obtain ⟨a, xs, ds, e1, e2, e3, e4, e5, e6, e7, e8⟩ := r
    exact ⟨a, xs, ds, e1, e2, t.h _ _ e3 e5, t.f _ e4 (by rw [e3]; simp), e5, e6.mono t.g, e7, e8⟩
theorem RV.from {X : Ct} {Hf H0 H1 G H : Hp} {x : VD} {v : V} (r : RV X Hf H1 G H x v) (t : ∀ a, H1 a = none → H0 a = none) : RV X Hf H0 G H x v := by
  obtain ⟨k, d⟩ := x
  cases k with
  | sh => exact r
  | lo =>
    obtain ⟨a, xs, ds, e1, e2, e3, e4, e5, e6, e7, e8⟩ := r
    exact ⟨a, xs, ds, e1, e2, e3, e4, e5, e6, e7, fun z => t _ (e8 z)⟩
  | fr =>
    obtain ⟨a, xs, ds, e1, e2, e3, e4, e5, e6, e7, e8⟩ := r
    exact ⟨a, xs, ds, e1, e2, e3, e4, e5, e6, e7, fun z => t _ (e8 z)⟩
/-- the value as data of the heap, whatever its kind -/
theorem RV.any {X : Ct} {Hf H0 G H : Hp} {x : VD} {v : V} (r : RV X Hf H0 G H x v) (s : Sub G H) : RD X.K X.ad H v x.2 := by
  obtain ⟨k, d⟩ := x
  cases k with
  | sh => exact RD.mono s r
  | lo =>
    obtain ⟨a, xs, ds, e1, e2, e3, e4, e5, e6, e7, e8⟩ := r
    subst e1; simp only at e2 ⊢; subst e2
    exact .lst e3 (e6.mono s)
  | fr =>
    obtain ⟨a, xs, ds, e1, e2, e3, e4, e5, e6, e7, e8⟩ := r
    subst e1; simp only at e2 ⊢; subst e2
    exact .lst e3 (e6.mono s)
/-- a list value: its items are in the ground -/
theorem RV.list {X : Ct} {Hf H0 G H : Hp} {k : Kd} {ds : List D} {v : V} (r : RV X Hf H0 G H (k, .lst ds) v) (s : Sub G H) : ∃ a xs, v = .ref a ∧ H a = some (.lst xs) ∧ RDs X.K X.ad G xs ds := by
  cases k with
  | sh =>
    cases r with
    | lst h r => exact ⟨_, _, rfl, s _ _ h, r⟩
  | lo =>
    obtain ⟨a, xs, ds, e1, e2, e3, e4, e5, e6, e7, e8⟩ := r
    cases e2
    exact ⟨a, xs, e1, e3, e6⟩
  | fr =>
    obtain ⟨a, xs, ds, e1, e2, e3, e4, e5, e6, e7, e8⟩ := r
    cases e2
    exact ⟨a, xs, e1, e3, e6⟩
/-- a value that is no list is shared -/
theorem RV.flat {X : Ct} {Hf H0 G H : Hp} {x : VD} {v : V} (r : RV X Hf H0 G H x v) (n : ∀ l, x.2 ≠ .lst l) : RD X.K X.ad G v x.2 := by
  obtain ⟨k, d⟩ := x
  cases k with
  | sh => exact r
  | lo => obtain ⟨a, xs, ds, e1, e2, _⟩ := r; exact absurd e2 (n _)
  | fr => obtain ⟨a, xs, ds, e1, e2, _⟩ := r; exact absurd e2 (n _)
/-- what may be kept comes into the ground -/
theorem RV.keep {X : Ct} {Hf G0 H0 G H : Hp} {s0 s : Sg} {x : VD} {v : V} {d : D} (r : RV X Hf H0 G H x v) (t : Stp X G0 H0 s0 G H s) (k : keep x = some d) : ∃ G', Stp X G0 H0 s0 G' H s ∧ Sub G G' ∧ (∀ a, G a = none → H0 a ≠ none → G' a = none) ∧ RD X.K X.ad G' v d ∧ (∀ b, G b = none → (x.1 = .sh ∨ v ≠ .ref b) → G' b = none) := by
  obtain ⟨kd, e⟩ := x
  cases kd with
  | sh => cases k; exact ⟨G, t, Sub.refl _, fun _ e _ => e, r, fun _ e _ => e⟩
  | lo => cases k
  | fr =>
    obtain ⟨a, xs, ds, e1, e2, e3, e4, e5, e6, e7, e8⟩ := r
    cases k
    subst e1; subst e2
    refine ⟨upd G a (.lst xs), t.ground e3 e4 e5 (e8 rfl), Sub.upd e4, fun b e k => ?_, .lst upd_same (e6.mono (Sub.upd e4)), fun b e k => ?_⟩
    · have nb : b ≠ a := fun z => k (z ▸ e8 rfl)
      rw [upd_ne nb]; exact e
    · have nb : b ≠ a := fun z => k.elim (fun q => nomatch q) fun q => q (by rw [z])
      rw [upd_ne nb]; exact e
end Ev
set_option Elab.async false
set_option linter.all false
set_option maxRecDepth 100000
set_option maxHeartbeats 4000000
namespace Ev
open PySem PySem.Spec PyProof.Rows L2
/-! ### an own __init__ that calls super().__init__ -/
/-- a method-wrapper around a built-in __init__ called at an exception of an own class -/
theorem mw_call {P : Program} {w : World} {A : Around} {E : Value → Shared → Prop} {Q : Value → Shared → Prop} {h : Heap} {g : Array GenState} {d : Drawn} {t : Nat} {os : OsState} {bmB bm bs sub rest : List Value} {newId initId : String} {B : String} {nm q : Str} {C N u x t0 : Addr} {hdct ab : Bool} {sn : List Str} {col : Option Bool} {dd dv : Option Addr} {k0 k1 k2 k3 k5 : Option Value}
    (FB : ExcBaseFacts B newId initId bmB) (hC : h.get? C = some (excClassObj nm q C N bs bm hdct sn sub ab col dd k0 k1 k2 k3 k5 newId)) (hu : h.get? u = some (PySem.W.kxs_mw initId x)) (he : h.get? x = some (PySem.W.excRec (.ref C) t0 dv .none .none (.bool false))) (hz : rest.length ≤ sizeLine)
    (hq : ∀ h', (∀ b o, b ≠ x → h.get? b = some o → h'.get? b = some o) → h'.get? x = some (PySem.W.excRec (.ref C) h.objs.size dv .none .none (.bool false)) → Q .none ⟨h', g, d, t, os⟩) :
    wpAny (model P w) A (call (.ref u) rest) Q E ⟨h, g, d, t, os⟩ := by
  refine wpAny_call (codeAny_of_tree ?_)
  show wpAny _ A.in1 (callAny (.ref u) ⟨rest, []⟩) _ _ _
  unfold callAny
  refine wpAny_bind (wpAny_load hu ?_)
  have hk : (Value.type "method-wrapper" == Value.type "method" || Value.type "method-wrapper" == Value.type "builtin_function_or_method" || Value.type "method-wrapper" == Value.type "method-wrapper") = true := by decide
  simp only [PySem.W.kxs_mw, hk, if_true]
  refine PySem.W.KFB.if_so (by decide) ?_
  refine wpAny_bind (PySem.W.check_bound_init FB.toExcCallFacts hC he rfl ?_)
  refine wpAny_bind (wpAny_pure (wpAny_pure ?_))
  refine ⟨plainId_quiet FB.init.plain _, codeAny_builtin FB.initEntry ?_⟩
  exact PySem.W.exc_init_tree he hz fun h' k1 k2 _ => hq h' k1 k2
abbrev iBody (f x y : Str) (p0 p1 p2 p3 p4 p5 p6 p7 p8 p9 : Pos) : List Stmt := [.Expr (.Call (.Attribute (.Call (.Name "super" p0) [] [] p1) "__init__" p2) [.Name y p3] [] p4) p5, .Assign [.Attribute (.Name x p6) f p7] (.Name y p8) p9]
abbrev iFn (nm qual : Str) (params : Arguments) (f x y : Str) (p0 p1 p2 p3 p4 p5 p6 p7 p8 p9 : Pos) (scope : Scope) (dV kV doc pm : Value) (an : Option Addr) (cda : Addr) (ct : Value) (cc : Addr) : FuncData :=
  PySem.W.ksFn nm qual params (iBody f x y p0 p1 p2 p3 p4 p5 p6 p7 p8 p9) scope dV kV doc pm an (.ref cda) ct cc
/-- the context of such an __init__ -/
def cxI (P : Program) (w : World) (K : PySem.W.Frag) (mg : Str → Option Value) (base : Heap) (x y : Str) (env : PySem.Env) (A : Around) (outer : List PySem.Env) (s : Shared) (H : Hp) : Cx where
  prog := P
  w := w
  K := K
  mg := mg
  base := base
  A := A.deeper env
  N := [x, y]
  s_0 := s
  H_0 := H
  env := env
  outer := outer
  stack := env :: outer
  ex := []
  fn := fun _ => false
  calm := true
  pn := []
  xe := fun _ _ => False
/-- C's __init__: self.f = v -/
def spI (C : Addr) (f : Str) : Sp := fun vs H Q _ => ∃ (a : Addr) (v : V), vs = [.ref a, v] ∧ H a = some (exo a C none) ∧ ∀ dx, H dx = none → dx ≠ a → Q .non (upd (upd H dx (exd dx [(f, v)])) a (exo a C (some dx)))
theorem i_call {o : Expr} {name y : Str} {p2 p3 p4 : Pos} (hl : (p2.endLine == p4.line) = true) (env : PySem.Env) : eval (.Call (.Attribute o name p2) [.Name y p3] [] p4) env = (do
    let ov ← attributeBase o name env (eval o env)
    standAt p2.atName
    let (f, first) ← holding [ov] (getMethod ov name (do return (← importBound o env).getD true))
    callWith p4 f first (backTo p4 (starEach [.Name y p3] env)) []) := by
  have hpos : methodCallPos true o env p2 p4 = pure p4 := by unfold methodCallPos; simp [hl]
  show (do
    let ov ← attributeBase o name env (eval o env)
    standAt p2.atName
    methodCall o name p2 p4 env ov 1 (backTo p4 (starEach [.Name y p3] env)) []) = _
  unfold methodCall
  have hform : methodCallForm 1 (backTo p4 (starEach [.Name y p3] env)) [] = true := by rfl
  simp only [hform, hpos, calleeOf, if_true, pure_bind]
theorem lookup_put' {α : Type} (f g : Str) (y : α) (fs : List (Str × α)) : ((f, y) :: fs).lookup g = if g = f then some y else fs.lookup g := by
  by_cases h : g = f
  · subst h
    simp [List.lookup]
  · have e : (g == f) = false := by simpa using h
    rw [if_neg h]
    simp [List.lookup, e]
theorem fn_init {CX : CXT} {P : Program} {w : World} {K : PySem.W.Frag} {mg : Str → Option Value} {base : Heap} {C fI cda cc : Addr} {nm qual f x y file : Str} {params : Arguments} {p0 p1 p2 p3 p4 p5 p6 p7 p8 p9 : Pos} {scope : Scope} {dV kV doc pm ct oc cl ccl : Value} {an od cld cdd : Option Addr} {osl csl ccs : Array (Option Value)} {ar : Arg} {vs0 : Array Value} {tf : Tok}
    (T : OexC K C) (lk : K.lookup fI = some ⟨oc, od, .func (iFn nm qual params f x y p0 p1 p2 p3 p4 p5 p6 p7 p8 p9 scope dV kV doc pm an cda ct cc), osl⟩) (hcd : PySem.W.codeIn K (.ref cda) qual = true)
    (hsk : scope.kind = .function) (hco : scope.isCoroutine = false) (hgen : scope.isGenerator = false) (hcell : ∀ z ∈ scope.names, z.2 ≠ .cell) (hx : scope.names.lookup x = some .local) (hy : scope.names.lookup y = some .local) (hxy : x ≠ y)
    (hks : scope.names.lookup ("super" : Str) = some .globalImplicit) (hkc : scope.names.lookup ("__class__" : Str) = some .free) (hfr : ∀ z, scope.names.lookup z = some .free → z = "__class__") (hpar : (params.posonlyargs ++ params.args).head? = some ar) (har : ar.arg = x)
    (hcode : K.lookup cda = some ⟨ccl, cdd, .fields vs0, ccs⟩) (hvs : vs0[2]? = some (.str file tf)) (hfile : ((P.main.file : Str) == file) = true) (hcc : K.lookup cc = some ⟨cl, cld, .cell (some (.ref C)), csl⟩)
    (htop : (P.main.scope.names.lookup ("super" : Str)).isSome = false) (hst : PySem.W.nsIn K PySem.cStatics "thirdparty.any" = some none) (hsup : PySem.W.ks_superIn K C C "__init__" = some (some (.builtin "ValueError.__init__")))
    (hVE : PySem.W.subIn K (.ref C) (.type "ValueError") = some true) (hself : PySem.W.mroIn K C (.ref C) = some true) (hmg : mg "super" = none) (hno : PySem.W.findIn K (.ref C) f = some none) (nx : (x == ("__debug__" : Str)) = false ∧ (x == ("__classdict__" : Str)) = false) (ny : (y == ("__debug__" : Str)) = false ∧ (y == ("__classdict__" : Str)) = false) (hline : (p2.endLine == p4.line) = true) :
    FnOk P w K mg base CX 0 fI (iFn nm qual params f x y p0 p1 p2 p3 p4 p5 p6 p7 p8 p9 scope dV kV doc pm an cda ct cc) [x, y] (spI C f) := by
  refine ⟨fun vs H Q E q => ?_, fun A outer s H args us vs Q E hr e0 hb hv hsp => ?_⟩
  · obtain ⟨a, v, rfl, _⟩ := q
    rfl
  obtain ⟨a, v, rfl, ea, hq⟩ := hsp
  cases hv with
  | @cons _ u0 _ ur ra rr =>
  cases rr with
  | @cons _ u _ ur2 rv rr2 =>
  cases rr2
  obtain rfl : u0 = Value.ref a := ra
  have KX : K.In s.heap := e0.mod.kin.keeps fun b o e => (e0.bs b o e).1
  have lim : s.heap.NoLimit := e0.mod.nolimit.keeps fun b o e => (e0.bs b o e).1
  obtain ⟨hp, g, dr, tk, os⟩ := s
  obtain ⟨x1, x2⟩ := nx
  obtain ⟨y1, y2⟩ := ny
  refine ks_codeAny_call_defAt (fd := iFn nm qual params f x y p0 p1 p2 p3 p4 p5 p6 p7 p8 p9 scope dV kV doc pm an cda ct cc) (body := iBody f x y p0 p1 p2 p3 p4 p5 p6 p7 p8 p9) hr.depth (KX _ _ lk) rfl lim (PySem.W.codeRec_of KX hcd) rfl hb hcell (fun z hz => ?_) (fun h₁ hns hk₁ => ?_) hco hgen hsk
  · have hz : z = (x, Value.ref a) ∨ z = (y, u) := by
      simpa [List.zip, List.zipWith] using hz
    rcases hz with rfl | rfl
    · exact hx
    · exact hy
  have fr : A.frames = some outer := e0.frames
  have lL : h₁.get? hp.objs.size ≠ none := fun z => by
    obtain ⟨o, es, ep, e1, _⟩ := hns
    rw [z] at e1; cases e1
  have zip2 : ([x, y] : List Str).zip [Value.ref a, u] = [(x, Value.ref a), (y, u)] := rfl
  have mx : ([(x, Value.ref a), (y, u)] : List (Str × Value)).reverse.lookup x = some (.ref a) := by
    rw [show ([(x, Value.ref a), (y, u)] : List (Str × Value)).reverse = [(y, u), (x, Value.ref a)] from rfl, lookup_put' y x u, if_neg hxy, lookup_put' x x, if_pos rfl]
  have my : ([(x, Value.ref a), (y, u)] : List (Str × Value)).reverse.lookup y = some u := by
    rw [show ([(x, Value.ref a), (y, u)] : List (Str × Value)).reverse = [(y, u), (x, Value.ref a)] from rfl, lookup_put' y y u, if_pos rfl]
  have cl1 : ∀ z c, ([("__class__", cc)] : List (Str × Addr)).lookup z = some c → z = "__class__" ∧ c = cc := fun z c e => by
    rw [lookup_put'] at e
    by_cases hz : z = "__class__"
    · rw [if_pos hz] at e
      cases e
      exact ⟨hz, rfl⟩
    · rw [if_neg hz] at e
      cases e
  have bcc := e0.bs cc _ (e0.mod.kin _ _ hcc)
  have bcc' := e0.mod.kin _ _ hcc
  have ccL : cc ≠ hp.objs.size := fun z => Nat.lt_irrefl _ (Nat.lt_of_lt_of_le (Heap.lt_size bcc') (z ▸ e0.bsz))
  obtain ⟨env, henv⟩ : ∃ env, env = PySem.W.ksEnv qual scope hp.objs.size fI (.ref cda) cc := ⟨_, rfl⟩
  have I : Inv (cxI P w K mg base x y env A outer ⟨hp, g, dr, tk, os⟩ H) [] [some (.ref a), some v] H ⟨h₁, g, dr, tk + 2, os⟩ := by
    subst henv
    refine ⟨⟨e0.mod, hsk, rfl, rfl, Nat.le_refl _, fun z z' c h1 h2 => ?_, fun z hz => ?_, fun z c h1 _ => (nomatch h1), fun _ => hr.hd, Around.frames_deeper fr, .inr ⟨rfl, rfl⟩, fun b z => (nomatch z), e0.bs, e0.bsz, fun b _ _ z => (nomatch z), fun b z => (nomatch z), e0.funs, e0.frf⟩,
      rfl, e0.bare, Un.kept hk₁, ⟨_, hns, fun i z w' h1 h2 h3 => ?_⟩, fun z c h => ?_, e0.hok.fresh (Nat.le_refl _), fun z c h => ?_, fun p hp => (nomatch hp), e0.hok.kept hk₁, rfl⟩
    · exact (cl1 z c h1).1.trans (cl1 z' c h2).1.symm
    · rcases hz with hz | hz
      · exact absurd rfl (hcell _ (PySem.mem_of_lookup hz))
      · exact ⟨cc, by rw [hfr z hz]; rfl⟩
    · match i, h1, h2 with
      | 0, h1, h2 =>
        cases h1
        cases h2
        exact ⟨.ref a, rfl, .inl ⟨hx, mx⟩⟩
      | 1, h1, h2 =>
        cases h1
        cases h2
        exact ⟨u, rv, .inl ⟨hy, my⟩⟩
      | i + 2, h1, h2 => cases h1
    · obtain ⟨rfl, rfl⟩ := cl1 z c h
      exact ⟨_, _, hk₁ _ _ (KX _ _ hcc), rfl⟩
    · obtain ⟨rfl, rfl⟩ := cl1 z c h
      exact bcc.2
  subst henv
  obtain ⟨nmc, qn, Nn, bs, bm, sn, sub, ab, col, dd, k0, k1, k2, k3, k5, hC, hbm⟩ := T.cls
  have hcl : PySem.W.clsIn K C = some { name := nmc, bases := bs, mro := .ref C :: bm, ns := Nn, qualname := qn, hasDict := true, slotNames := sn, subclasses := sub, abstract := ab, collection := col, hasDel := false } := by unfold PySem.W.clsIn; rw [hC] <;> rfl
  obtain ⟨t1, hoa⟩ := exo_at I.hok ea
  have aC : a ≠ C := fun z => by
    have h1 := (e0.bs C _ (e0.mod.kin _ _ hC)).2
    rw [← z, ea] at h1
    cases h1
  have key : _root_.PySem.wpAt (model P w) (A.deeper (PySem.W.ksEnv qual scope hp.objs.size fI (.ref cda) cc)) (.func (iBody f x y p0 p1 p2 p3 p4 p5 p6 p7 p8 p9) (PySem.W.ksEnv qual scope hp.objs.size fI (.ref cda) cc)) (execs (iBody f x y p0 p1 p2 p3 p4 p5 p6 p7 p8 p9) (PySem.W.ksEnv qual scope hp.objs.size fI (.ref cda) cc))
      (fun fl s' => fl = .next ∧ ∃ σ' H', Inv (cxI P w K mg base x y (PySem.W.ksEnv qual scope hp.objs.size fI (.ref cda) cc) A outer ⟨hp, g, dr, tk, os⟩ H) [] σ' H' s' ∧ Q .non H') (fun _ _ => False) ⟨h₁, g, dr, tk + 2, os⟩ := by
    refine ks_wpAt_execs_cons (ks_wpAt_Expr_any (ks_wpAt_MethodCall (pl := do return (← importBound (.Call (.Name "super" p0) [] [] p1) (PySem.W.ksEnv qual scope hp.objs.size fI (.ref cda) cc)).getD true) ?_ (i_call hline _)) I.quiet)
    refine ks_wpAt_super_base (env := PySem.W.ksEnv qual scope hp.objs.size fI (.ref cda) cc) hks hkc (by decide) rfl (I.kIn _ _ lk) rfl hpar rfl (I.kIn _ _ hcode) rfl hvs hfile htop ?_
    obtain ⟨mb, b1, b2⟩ := I.mod.blt
    refine PySem.W.ks_loadName_global hsk hks (Calls.loadGlobal_builtin (I.mod.glob.keeps I.bk) hmg (b1.keeps I.bk) ((b2 _ (by decide)).trans (by kernel_rfl)) ⟨rfl, ?_⟩)
    refine wpAny_loadName_free hsk hkc rfl ⟨_, I.kIn _ _ hcc, rfl⟩ ?_
    refine wpAny_loadName_local hsk (har ▸ hx) hns (by rw [har]; exact mx) ?_
    refine ks_wpAny_isType_cls (I.kIn _ _ hC) rfl ⟨rfl, ?_⟩
    refine ks_wpAny_call_super (I.kIn _ _ hC) rfl hoa rfl (fun c z => nomatch z) (PySem.W.looks_mroIn I.kIn hself) (fun h2 e2 kk => ?_)
    have I2 : Inv (cxI P w K mg base x y (PySem.W.ksEnv qual scope hp.objs.size fI (.ref cda) cc) A outer ⟨hp, g, dr, tk, os⟩ H) [] [some (.ref a), some v] H ⟨h2, g, dr, tk + 2, os⟩ := I.kept (t' := tk + 2) kk
    have hsup' : PySem.W.alongIn K "__init__" (((Value.ref C :: bm).dropWhile (· != .ref C)).drop 1) = some (some (.builtin "ValueError.__init__")) := by
      unfold PySem.W.ks_superIn at hsup
      rw [hcl] at hsup
      exact hsup
    have J2 : PySem.W.InstAt h2 a _ C none := ⟨kk _ _ hoa, rfl, rfl, trivial⟩
    refine PySem.W.kxs_getMethod PySem.W.kxs_ValueError e2 (PySem.W.looks_opaque I2.kIn hst) (l₀ := .ref C :: bm) ((PySem.W.looks_clsIn I2.kIn hcl).andThen .now) rfl I2.kIn hsup' (J2.type.andThen (PySem.W.looks_subIn I2.kIn hVE)) aC (by decide) ?_
    have I3 : Inv (cxI P w K mg base x y (PySem.W.ksEnv qual scope hp.objs.size fI (.ref cda) cc) A outer ⟨hp, g, dr, tk, os⟩ H) [] [some (.ref a), some v] H ⟨h2.push (PySem.W.kxs_mw "ValueError.__init__" a), g, dr, tk + 2 + 1, os⟩ := I2.kept (t' := tk + 2 + 1) fun b o z => Heap.get?_push_of_some _ z
    have gu : (h2.push (PySem.W.kxs_mw "ValueError.__init__" a)).get? h2.objs.size = some (PySem.W.kxs_mw "ValueError.__init__" a) := Heap.get?_push_at rfl rfl
    have I4 := I3.pins_of (pins' := [(h2.objs.size, PySem.W.kxs_mw "ValueError.__init__" a)]) fun p hp => by
      rw [List.mem_singleton] at hp
      subst hp
      refine ⟨gu, I2.hok.fresh (Nat.le_refl _), fun z => ?_, fun hm => ?_, fun v z => nomatch z⟩
      · have := I2.lt
        rw [← z] at this
        exact Nat.lt_irrefl _ this
      · obtain ⟨_, o', e', _⟩ := e0.funs.mem hm
        exact Nat.lt_irrefl _ (Heap.lt_size (kk _ _ (hk₁ _ _ e')))
    refine PySem.W.kxs_callWith (i := "ValueError.__init__") (x := a) rfl ?_
    refine Calls.evalArgs_plain ?_
    have ha : PA (cxI P w K mg base x y (PySem.W.ksEnv qual scope hp.objs.size fI (.ref cda) cc) A outer ⟨hp, g, dr, tk, os⟩ H) [.Name y p3] (tCons (tVar 1) tNil) := pa_cons (pe_var rfl (.inl hy) y1 y2) pa_nil
    refine thn (wpAny_mono (ha.run p4 _ _ _ H (fun vs H1 => vs = [v] ∧ H1 = H) I4 ⟨v, rfl, rfl, rfl⟩) (fun us s1 hs => hs) fun _ _ z => z.elim) fun us s1 hs => ?_
    obtain ⟨vs, H1, I5, r5, rfl, rfl⟩ := hs
    cases r5 with
    | @cons _ u1 _ ur3 rv1 rr3 =>
    cases rr3
    have I5' := I5
    obtain ⟨hp5, g5, dr5, tk5, os5⟩ := s1
    obtain ⟨gu5, _⟩ := I5.pin (h2.objs.size, PySem.W.kxs_mw "ValueError.__init__" a) (List.mem_append_right _ (List.mem_singleton.mpr rfl))
    obtain ⟨t5, ho5⟩ := exo_at I5.hok ea
    refine ⟨gu5, ?_⟩
    refine mw_call F.excBase_ValueError (I5.kIn _ _ hC) gu5 ho5 (by show 1 ≤ sizeLine; rw [sizeLine_eq]; omega) fun h' kk' hx' => ?_
    have J := I5.write (t' := tk5) (x := a) (e := a) (o := exo a C none) (by rw [ea]; exact True.intro) (.inl rfl) kk' ⟨_, hx'⟩ (exo_ok hx')
    have eu : upd H1 a (exo a C none) = H1 := by
      funext b
      by_cases hb : b = a
      · rw [hb, upd_same, ea]
      · rw [upd_ne hb]
    rw [eu] at J
    have J := J.unpinned (pins := []) (pl := [(h2.objs.size, PySem.W.kxs_mw "ValueError.__init__" a)])
    have hs2 : PSs (cxI P w K mg base x y (PySem.W.ksEnv qual scope hp.objs.size fI (.ref cda) cc) A outer ⟨hp, g, dr, tk, os⟩ H1) [.Assign [.Attribute (.Name x p6) f p7] (.Name y p8) p9] (tSeq (tOst K f (tVar 0) (tVar 1)) tNext) :=
      pss_cons (ps_ost (pe_var rfl (.inl hx) x1 x2) (pe_var rfl (.inl hy) y1 y2)) pss_nil
    refine _root_.PySem.wpAt_of_wpAny (wpAny_mono (hs2.run [] _ _ H1 { nx := fun _ H' => Q .non H', rt := fun _ _ => False } J ⟨v, rfl, .ref a, rfl, a, C, rfl, T, hno, .inl ⟨ea, fun dx n ne => hq dx n ne⟩⟩) (fun fl s' hs => ?_) fun _ _ z => z.elim)
    cases fl with
    | next =>
      obtain ⟨σ', H', J', q⟩ := hs
      exact ⟨rfl, σ', H', J', q⟩
    | brk =>
      obtain ⟨_, _, _, q⟩ := hs
      exact q.elim
    | cont =>
      obtain ⟨_, _, _, q⟩ := hs
      exact q.elim
    | ret u =>
      obtain ⟨_, _, _, _, _, q⟩ := hs
      exact q.elim
  refine ks_wpAt_mono key (fun fl s' hs => ?_) fun _ _ z => z.elim
  obtain ⟨rfl, σ', H', J, q⟩ := hs
  exact ⟨.non, H', J.os, J.bare, J.base, J.hok, rfl, q⟩
/-- an own class whose __init__ keeps its argument as the field 'reason' -/
structure OxC (P : Program) (w : World) (K : PySem.W.Frag) (mg : Str → Option Value) (base : Heap) (C : Addr) : Prop where
  oex : OexC K C
  xf : XfC K C
  no : PySem.W.findIn K (.ref C) "reason" = some none
  fn : ∃ fI fd, PySem.W.findIn K (.ref C) "__init__" = some (some (.ref fI)) ∧ PySem.W.typeIn K (.ref fI) = some (.type "function") ∧ FnOk P w K mg base (L2.CX P w) 0 fI fd ["self", "reason"] (spI C "reason") ∧ Binds K fd ["self", "reason"] []
end Ev
set_option Elab.async false
set_option linter.all false
set_option maxRecDepth 100000
set_option maxHeartbeats 4000000
namespace Ev
open PySem PySem.Spec PyProof.Rows L2
/-! ### the frame's names -/
structure ER (X : Ct) (Hf G H : Hp) (env : Env) (σ : L2.St) : Prop where
  len : σ.length = env.length
  sh : ∀ (i : Nat) d, env[i]? = some (some (false, d)) → ∃ v, σ[i]? = some (some v) ∧ RD X.K X.ad G v d
  ow : ∀ (i : Nat) d, env[i]? = some (some (true, d)) → ∃ a xs ds, σ[i]? = some (some (.ref a)) ∧ d = .lst ds ∧ H a = some (.lst xs) ∧ G a = none ∧ X.ad ≠ some a ∧ RDs X.K X.ad G xs ds ∧ Hf a = none
  ne : ∀ (i j : Nat) d e a, env[i]? = some (some (true, d)) → env[j]? = some (some (true, e)) → σ[i]? = some (some (.ref a)) → σ[j]? = some (some (.ref a)) → i = j
theorem ER.step {X : Ct} {Hf G H G' H' : Hp} {s s' : Sg} {env : Env} {σ : L2.St} (r : ER X Hf G H env σ) (t : Stp X G H s G' H' s') : ER X Hf G' H' env σ where
  len := r.len
  sh := fun i d e => by
    obtain ⟨v, h1, h2⟩ := r.sh i d e
    exact ⟨v, h1, h2.mono t.g⟩
  ow := fun i d e => by
    obtain ⟨a, xs, ds, e1, e2, e3, e4, e5, e6, e7⟩ := r.ow i d e
    exact ⟨a, xs, ds, e1, e2, t.h _ _ e3 e5, t.f _ e4 (by rw [e3]; simp), e5, e6.mono t.g, e7⟩
  ne := r.ne
/-- a wider ground -/
theorem ER.ground {X : Ct} {Hf G H G' : Hp} {env : Env} {σ : L2.St} (r : ER X Hf G H env σ) (s : Sub G G') (h : ∀ (i : Nat) d a, env[i]? = some (some (true, d)) → σ[i]? = some (some (.ref a)) → G a = none → G' a = none) : ER X Hf G' H env σ where
  len := r.len
  sh := fun i d e => by
    obtain ⟨v, h1, h2⟩ := r.sh i d e
    exact ⟨v, h1, h2.mono s⟩
  ow := fun i d e => by
    obtain ⟨a, xs, ds, e1, e2, e3, e4, e5, e6, e7⟩ := r.ow i d e
    exact ⟨a, xs, ds, e1, e2, e3, h i d a e e1 e4, e5, e6.mono s, e7⟩
  ne := r.ne
/-! ### what a run gives -/
def Wp {α : Type} (r : Out α) (Q : α → Sg → Prop) (E : Exn → Sg → Prop) : Prop := match r with
  | .ok a s => Q a s
  | .ex x s => E x s
  | .stk => False
theorem Wp.bind {α β : Type} {r : Out α} {f : α → Sg → Out β} {Q : β → Sg → Prop} {E : Exn → Sg → Prop} : Wp (r.bind f) Q E = Wp r (fun a s => Wp (f a s) Q E) E := by
  cases r <;> rfl
theorem Wp.lift {α : Type} {o : Option α} {s : Sg} {Q : α → Sg → Prop} {E : Exn → Sg → Prop} (h : Wp (lift o s) Q E) : ∃ a, o = some a ∧ Q a s := by
  cases o with
  | none => exact h.elim
  | some a => exact ⟨a, rfl, h⟩
theorem Wp.imp {α : Type} {r : Out α} {Q Q' : α → Sg → Prop} {E E' : Exn → Sg → Prop} (h : Wp r Q E) (k : ∀ a s, Q a s → Q' a s) (l : ∀ x s, E x s → E' x s) : Wp r Q' E' := by
  cases r with
  | ok a s => exact k _ _ h
  | ex x s => exact l _ _ h
  | stk => exact h
/-- an exception as it lies -/
def XR (X : Ct) (x : Exn) (cls : Value) (d : Option Addr) (H : Hp) : Prop := ∃ a, X.xc[x.c]? = some a ∧ cls = .ref a ∧ match x.f with
  | none => d = none
  | some e => ∃ dd z, d = some dd ∧ H dd = some (.xd [("reason", .str z)]) ∧ e = .str z ∧ PyData.canLay0 (.str z) = true ∧ XfC X.K a ∧ PySem.W.findIn X.K (.ref a) "reason" = some none
def exW (X : Ct) (W : WX) (σ : L2.St) (G H : Hp) (s : Sg) (x : Exn) (s' : Sg) : Prop := ∀ cls d G' H', Stp X G H s G' H' s' → XR X x cls d H' → W cls d σ H'
theorem exW.step {X : Ct} {W : WX} {σ : L2.St} {G H G1 H1 : Hp} {s s1 s' : Sg} {x : Exn} (h : exW X W σ G H s x s') (t : Stp X G H s G1 H1 s1) : exW X W σ G1 H1 s1 x s' := fun cls d G' H' u r => h cls d G' H' (t.trans u) r
/-! ### readings -/
def semE (X : Ct) (c : Cc) (W : WX) (e : E) : TE := fun σ H Q => ∃ (G0 Hf : Hp) (s0 : Sg) (G : Hp) (s : Sg) (env : Env), Stp X G0 Hf s0 G H s ∧ ER X Hf G H env σ ∧
  Wp (evE c e env s) (fun x s' => ∀ v G' H', Stp X G H s G' H' s' → RV X Hf H G' H' x v → Q v H') (exW X W σ G H s)
def semT (X : Ct) (c : Cc) (W : WX) (e : E) : TT := fun σ H Q => ∃ (G0 Hf : Hp) (s0 : Sg) (G : Hp) (s : Sg) (env : Env), Stp X G0 Hf s0 G H s ∧ ER X Hf G H env σ ∧
  Wp (evT c e env s) (fun b s' => ∀ G' H', Stp X G H s G' H' s' → Q b H') (exW X W σ G H s)
def RVs (X : Ct) (Hf : Hp) : Hp → Hp → Hp → List VD → List V → Prop
  | _, _, _, [], [] => True
  | H0, G, H, x :: xs, v :: vs => RV X Hf H0 G H x v ∧ ∃ H1, (∀ a, H1 a = none → H0 a = none) ∧ (∀ a, v = .ref a → x.1 ≠ .sh → H1 a ≠ none) ∧ RVs X Hf H1 G H xs vs
  | _, _, _, _, _ => False
theorem RVs.step {X : Ct} {Hf G H G' H' : Hp} {s s' : Sg} (t : Stp X G H s G' H' s') : ∀ {H0 : Hp} {xs : List VD} {vs : List V}, RVs X Hf H0 G H xs vs → RVs X Hf H0 G' H' xs vs
  | _, [], [], _ => trivial
  | _, x :: xs, v :: vs, ⟨h, H1, k, l, r⟩ => ⟨h.step t, H1, k, l, RVs.step t r⟩
  | _, [], _ :: _, h => h.elim
  | _, _ :: _, [], h => h.elim
theorem RVs.from {X : Ct} {Hf G H : Hp} : ∀ {H0 H1 : Hp} {xs : List VD} {vs : List V}, RVs X Hf H1 G H xs vs → (∀ a, H1 a = none → H0 a = none) → RVs X Hf H0 G H xs vs
  | _, _, [], [], _, _ => trivial
  | _, _, x :: xs, v :: vs, ⟨h, H1, k, l, r⟩, t => ⟨h.from t, H1, fun a e => t a (k a e), l, r⟩
  | _, _, [], _ :: _, h, _ => h.elim
  | _, _, _ :: _, [], h, _ => h.elim
theorem RVs.length {X : Ct} {Hf G H : Hp} : ∀ {H0 : Hp} {xs : List VD} {vs : List V}, RVs X Hf H0 G H xs vs → vs.length = xs.length
  | _, [], [], _ => rfl
  | _, x :: xs, v :: vs, ⟨h, H1, k, l, r⟩ => by simp [RVs.length r]
  | _, [], _ :: _, h => h.elim
  | _, _ :: _, [], h => h.elim
def semA (X : Ct) (c : Cc) (W : WX) (es : List E) : TA := fun σ H Q => ∃ (G0 Hf : Hp) (s0 : Sg) (G : Hp) (s : Sg) (env : Env), Stp X G0 Hf s0 G H s ∧ ER X Hf G H env σ ∧
  Wp (evEs c es env s) (fun xs s' => ∀ vs G' H', Stp X G H s G' H' s' → RVs X Hf H G' H' xs vs → Q vs H') (exW X W σ G H s)
section
variable {X : Ct} {c : Cc} {W : WX} {σ : L2.St} {H : Hp} {G0 Hf G : Hp} {s0 s : Sg} {env : Env}
theorem semE.of {e : E} {Q : VK} (t : Stp X G0 Hf s0 G H s) (r : ER X Hf G H env σ) (h : Wp (evE c e env s) (fun x s' => ∀ v G' H', Stp X G H s G' H' s' → RV X Hf H G' H' x v → Q v H') (exW X W σ G H s)) : semE X c W e σ H Q := ⟨G0, Hf, s0, G, s, env, t, r, h⟩
/-- one part -/
theorem semE.one {a : E} {f : VD → Sg → Prop} {R : V → Hp → Prop} (t : Stp X G0 Hf s0 G H s) (r : ER X Hf G H env σ) (h : Wp (evE c a env s) f (exW X W σ G H s))
    (k : ∀ x u G1 H1 s1, Stp X G H s G1 H1 s1 → RV X Hf H G1 H1 x u → f x s1 → R u H1) : semE X c W a σ H R :=
  ⟨G0, Hf, s0, G, s, env, t, r, h.imp (fun x s1 q v G1 H1 t1 r1 => k x v G1 H1 s1 t1 r1 q) fun _ _ q => q⟩
theorem semT.one {a : E} {f : Bool → Sg → Prop} {R : Bool → Hp → Prop} (t : Stp X G0 Hf s0 G H s) (r : ER X Hf G H env σ) (h : Wp (evT c a env s) f (exW X W σ G H s))
    (k : ∀ x G1 H1 s1, Stp X G H s G1 H1 s1 → f x s1 → R x H1) : semT X c W a σ H R :=
  ⟨G0, Hf, s0, G, s, env, t, r, h.imp (fun x s1 q G1 H1 t1 => k x G1 H1 s1 t1 q) fun _ _ q => q⟩
theorem semA.one {a : List E} {f : List VD → Sg → Prop} {R : List V → Hp → Prop} (t : Stp X G0 Hf s0 G H s) (r : ER X Hf G H env σ) (h : Wp (evEs c a env s) f (exW X W σ G H s))
    (k : ∀ xs us G1 H1 s1, Stp X G H s G1 H1 s1 → RVs X Hf H G1 H1 xs us → f xs s1 → R us H1) : semA X c W a σ H R :=
  ⟨G0, Hf, s0, G, s, env, t, r, h.imp (fun x s1 q v G1 H1 t1 r1 => k x v G1 H1 s1 t1 r1 q) fun _ _ q => q⟩
/-- two parts -/
theorem semE.two {a b : E} {f : VD → VD → Sg → Prop} {R : V → V → Hp → Prop} (t : Stp X G0 Hf s0 G H s) (r : ER X Hf G H env σ)
    (h : Wp (evE c a env s) (fun x s1 => Wp (evE c b env s1) (fun y s2 => f x y s2) (exW X W σ G H s)) (exW X W σ G H s))
    (k : ∀ x y u v G2 H2 s2, Stp X G H s G2 H2 s2 → RV X Hf H G2 H2 x u → RV X Hf H G2 H2 y v → f x y s2 → R u v H2) :
    semE X c W a σ H fun u H1 => semE X c W b σ H1 fun v H2 => R u v H2 := by
  refine semE.one t r h fun x u G1 H1 s1 t1 r1 q => ?_
  refine semE.one (t.trans t1) (r.step t1) (q.imp (fun _ _ z => z) fun _ _ z => z.step t1) fun y v G2 H2 s2 t2 r2 q2 => ?_
  exact k x y u v G2 H2 s2 (t1.trans t2) (r1.step t2) (r2.from t1.n) q2
end
/-! ### a def's promise -/
/-- what a def is asked: shared data, and lists that are lent -/
def spF (X : Ct) (call : List VD → Sg → Out VD) (np : Nat) : Sp := fun vs H Q E => vs.length = np ∧ ∃ (Hf H0 G : Hp) (s : Sg) (xs : List VD), Stp X G H s G H s ∧ RVs X Hf H0 G H xs vs ∧ (∀ x ∈ xs, x.1 ≠ .fr) ∧
  Wp (call xs s) (fun x s' => ∀ v G' H', Stp X G H s G' H' s' → RV X H H G' H' x v → Q v H') (fun x s' => ∀ cls d G' H', Stp X G H s G' H' s' → XR X x cls d H' → E cls d H')
/-- names of the text -/
structure Tab where
  gl : List Str
  fn : List (Str × Nat)
  xc : List (Str × Bool)
  free : List Str
  /-- own classes of exceptions with a reason -/
  ow : List Str
  /-- isinstance of caught exceptions is asked -/
  kx : Bool
structure TabOk (P : Program) (w : World) (X : Ct) (c : Cc) (tb : Tab) (mg : Str → Option Value) (base : Heap) (k : Nat) : Prop where
  gl : ∀ (i : Nat) x, tb.gl[i]? = some x → ∃ d v u, c.gl[i]? = some d ∧ mg x = some u ∧ RelV v u ∧ ∀ G, RD X.K X.ad G v d
  fn : ∀ (i : Nat) x np, tb.fn[i]? = some (x, np) → ∃ f fd ps, mg x = some (.ref f) ∧ PySem.W.keepIn X.K (.ref f) = true ∧ Binds X.K fd ps [] ∧ FnOk P w X.K mg base (L2.CX P w) k f fd ps (spF X (c.call i) np)
  fr : ∀ x ∈ tb.free, mg x = none
  xc : ∀ (i : Nat) x pl, tb.xc[i]? = some (x, pl) → ∃ a, X.xc[i]? = some a ∧ mg x = some (.ref a) ∧ (pl = true → PySem.W.excIn X.K a He.veBase "ValueError.__new__" = true ∧ PySem.W.keepIn X.K (.ref a) = true ∧ PySem.W.subIn X.K (.ref a) (.type "BaseException") = some true ∧ PySem.W.typeIn X.K (.ref a) = some (.type "type"))
  ow : ∀ (i : Nat) x pl, tb.xc[i]? = some (x, pl) → x ∈ tb.ow → ∃ a, X.xc[i]? = some a ∧ mg x = some (.ref a) ∧ OxC P w X.K mg base a
  kx : tb.kx = true → ∀ (i : Nat) a, X.xc[i]? = some a → ExcC X.K a ∧ ∀ (j : Nat) b, X.xc[j]? = some b → PySem.W.kitOne X.K (.ref a) (.ref b) = some (c.sb.contains (i, j))
  k1 : 1 ≤ k
  sb : ∀ (i j : Nat) a b, X.xc[i]? = some a → X.xc[j]? = some b → PySem.W.exmOne X.K (.ref a) (.ref b) = some (c.sb.contains (i, j))
/-- the names that a block may store -/
def ownB : Option Scope → Str → Bool
  | none, _ => true
  | some s, x => (match s.names.lookup x with
    | some .local => true
    | some .cell => true
    | _ => false)
/-- a context's names -/
structure Gq (X : Cx) (T : Ct) (c : Cc) (tb : Tab) (N : List Str) (ow : Option Scope) (sc : Scope) (k : Nat) : Prop where
  hN : X.N = N
  nd : X.N.Nodup
  hsc : X.env.scope = sc
  hK : X.K = T.K
  tab : TabOk X.prog X.w T c tb X.mg X.base k
  fn : ∀ x, ownB ow x = true → X.fn x = true ∨ X.env.scope.names.lookup x = some .local
  u : X.A.units + 64 < cLine
structure Gd (X : Cx) (T : Ct) (c : Cc) (tb : Tab) (N : List Str) (ow : Option Scope) (sc : Scope) (W : WX) (k : Nat) : Prop extends Gq X T c tb N ow sc k where
  calm : X.calm = true
  takes : Takes X W
  room : Room k X.A
  pass : PassesOwn (model X.prog X.w) X.A X.env X.xe
/-! ### the checks -/
def visB (sc : Scope) (x : Str) : Bool := match sc.names.lookup x with
  | some .local => true
  | some .cell => true
  | some .free => true
  | _ => false
def locB (sc : Scope) (x : Str) : Bool := match sc.names.lookup x with
  | some .local => true
  | some .cell => true
  | _ => false
def glB (sc : Scope) (x : Str) : Bool := match sc.names.lookup x with
  | some .globalImplicit => true
  | _ => false
def eqS (x y : Str) : Bool := x.cps.toList == y.cps.toList
theorem eqS_ok {x y : Str} (h : eqS x y = true) : x = y := by
  obtain ⟨⟨a⟩⟩ := x
  obtain ⟨⟨b⟩⟩ := y
  have : a = b := by simpa [eqS] using h
  rw [this]
def eqOS (a : Option Str) (y : Str) : Bool := match a with
  | some x => eqS x y
  | none => false
theorem eqOS_ok {a : Option Str} {y : Str} (h : eqOS a y = true) : a = some y := by
  cases a with
  | none => cases h
  | some x => rw [eqS_ok h]
def nameB (x : Str) : Bool := !(x == ("__debug__" : Str)) && (!(x == ("__classdict__" : Str)) && !(decide (x = "__name__")))
theorem visB_ok {sc : Scope} {x : Str} (h : visB sc x = true) : Vis sc x := by
  unfold visB at h
  split at h <;> first | exact .inl (by assumption) | exact .inr (.inl (by assumption)) | exact .inr (.inr (by assumption)) | cases h
theorem locB_ok {sc : Scope} {x : Str} (h : locB sc x = true) : Loc sc x := by
  unfold locB at h
  split at h <;> first | exact .inl (by assumption) | exact .inr (by assumption) | cases h
theorem glB_ok {X : Cx} {sc : Scope} {x : Str} (e : X.env.scope = sc) (h : glB sc x = true) : Gl X x := by
  subst e
  unfold glB at h
  split at h
  · assumption
  · cases h
theorem ba3 {a b c : Bool} (h : (a && (b && c)) = true) : a = true ∧ b = true ∧ c = true := by
  simp only [Bool.and_eq_true] at h; exact h
theorem ba2 {a b : Bool} (h : (a && b) = true) : a = true ∧ b = true := by
  simp only [Bool.and_eq_true] at h; exact h
theorem nameB_ok {x : Str} (h : nameB x = true) : (x == ("__debug__" : Str)) = false ∧ (x == ("__classdict__" : Str)) = false ∧ x ≠ "__name__" := by
  obtain ⟨h1, h2, h3⟩ := ba3 h
  refine ⟨by simpa using h1, by simpa using h2, by simpa using h3⟩
def noStar : Expr → Bool
  | .Starred _ _ => false
  | _ => true
theorem star_cons {e : Expr} (h : noStar e = true) (es : List Expr) (env : PySem.Env) : starEach (e :: es) env = (false, eval e env) :: starEach es env := by
  cases e <;> first | rfl | cases h
theorem star_plain : ∀ {es : List Expr} (pos : Pos) (env : PySem.Env), es.all noStar = true → (backTo pos (starEach es env)).any (·.1) = false
  | [], _, _, _ => rfl
  | e :: es, pos, env, h => by
    rw [List.all_cons] at h
    obtain ⟨h1, h2⟩ := ba2 h
    rw [star_cons h1]
    show (false || (backTo pos (starEach es env)).any (·.1)) = false
    rw [star_plain pos env h2]; rfl
def plainTest : Expr → Bool
  | .UnaryOp .Not _ _ => false
  | .BoolOp _ _ _ => false
  | .IfExp _ _ _ _ => false
  | .Compare _ _ _ _ => false
  | _ => true
theorem plainTest_ok {e : Expr} (h : plainTest e = true) (env : PySem.Env) (whole : Sem Value) : isTrue e env whole = (do let v ← whole; standAt e.pos; holding [v] (truthy v)) := by
  cases e <;> first | rfl | (cases h; done) | skip
  rename_i op _ _
  cases op <;> first | rfl | cases h
theorem PE.mono {X : Cx} {e : Expr} {t t' : TE} (h : PE X e t) (k : ∀ σ H Q, t' σ H Q → t σ H Q) : PE X e t' := ⟨fun pins s σ H Q I q => h.run pins s σ H Q I (k σ H Q q)⟩
theorem PT.mono {X : Cx} {e : Expr} {t t' : TT} (h : PT X e t) (k : ∀ σ H Q, t' σ H Q → t σ H Q) : PT X e t' := ⟨fun pins s σ H Q I q => h.run pins s σ H Q I (k σ H Q q)⟩
theorem PW.mono {X : Cx} {e : Expr} {t t' : TT} (h : PW X e t) (k : ∀ σ H Q, t' σ H Q → t σ H Q) : PW X e t' := ⟨fun w pins s σ H Q I q => h.run w pins s σ H Q I (k σ H Q q)⟩
theorem PA.mono {X : Cx} {e : List Expr} {t t' : TA} (h : PA X e t) (k : ∀ σ H Q, t' σ H Q → t σ H Q) : PA X e t' := ⟨fun p pins s σ H Q I q => h.run p pins s σ H Q I (k σ H Q q)⟩
end Ev
set_option Elab.async false
set_option linter.all false
set_option maxRecDepth 100000
set_option maxHeartbeats 4000000
namespace Ev
open PySem PySem.Spec PyProof.Rows L2
/-! ### truth, equality -/
theorem RD.tru {K : PySem.W.Frag} {ad : Option Addr} {H : Hp} {v : V} {d : D} {k : Bool} (r : RD K ad H v d) (e : truD d = some k) : TruV K v H k := by
  cases r with
  | non => cases e; rfl
  | bl b => cases e; rfl
  | int i => cases e; rfl
  | str x h =>
    have e2 : (if x.length ≤ sizeLine then some ((x.length : Int) != 0) else none) = some k := e
    split at e2
    · rename_i q; cases e2; exact ⟨q, rfl⟩
    · cases e2
  | tup h r =>
    cases e
    refine .inr (.inl ⟨_, h, ?_⟩)
    have := r.length
    rename_i xs ds
    cases xs <;> cases ds <;> first | rfl | simp at this
  | lst h r =>
    cases e
    refine .inl ⟨_, .of h, ?_⟩
    have := r.length
    rename_i xs ds
    cases xs <;> cases ds <;> first | rfl | simp at this
  | scr h => cases e
  | drw h => cases e
section
variable {K : PySem.W.Frag} {ad : Option Addr} {H : Hp}
mutual
theorem RD.dp : ∀ {n : Nat} {v : V} {d : D}, RD K ad H v d → plainD n d = true → Dp K H v (toP d)
  | _, _, _, .non, _ => .non
  | _, _, _, .bl b, _ => .bl b
  | _, _, _, .int i, _ => .int i
  | _, _, _, .str x h, _ => .str x
  | n, _, _, .tup h r, e => by
    cases n with
    | zero => simp [plainD] at e
    | succ n => exact .tup h (RDs.dp (n := n) r (by simpa [plainD] using e))
  | n, _, _, .lst h r, e => by
    cases n with
    | zero => simp [plainD] at e
    | succ n => exact .lst (.of h) (RDs.dp (n := n) r (by simpa [plainD] using e))
  | n, _, _, .scr h, e => by cases n <;> simp [plainD] at e
  | n, _, _, .drw h, e => by cases n <;> simp [plainD] at e
theorem RDs.dp : ∀ {n : Nat} {vs : List V} {ds : List D}, RDs K ad H vs ds → plainDs n ds = true → DpAll K H vs (toPs ds)
  | _, _, _, .nil, _ => .nil
  | n, _, _, .cons h r, e => by
    have e' := ba2 (show (plainD n _ && plainDs n _) = true from by simpa [plainDs] using e)
    exact .cons (RD.dp h e'.1) (RDs.dp r e'.2)
end
mutual
theorem RD.lay : ∀ {v : V} {d : D}, RD K ad H v d → (toP d).canLay0 = true
  | _, _, .non => rfl
  | _, _, .bl b => rfl
  | _, _, .int i => rfl
  | _, _, .str x h => h
  | _, _, .tup h r => by simp only [toP, PyData.canLay0]; exact RDs.lay r
  | _, _, .lst h r => by simp only [toP, PyData.canLay0]; exact RDs.lay r
  | _, _, .scr h => rfl
  | _, _, .drw h => rfl
theorem RDs.lay : ∀ {vs : List V} {ds : List D}, RDs K ad H vs ds → PyData.canLayAll0 (toPs ds) = true
  | _, _, .nil => rfl
  | _, _, .cons h r => by simp only [toPs, PyData.canLayAll0, RD.lay h, RDs.lay r, Bool.and_self]
end
end
mutual
theorem depth_toP : ∀ {n : Nat} (d : D), plainD n d = true → (toP d).depth ≤ n
  | n, .non, _ => Nat.zero_le _
  | n, .bl b, _ => Nat.zero_le _
  | n, .int i, _ => Nat.zero_le _
  | n, .str x, _ => Nat.zero_le _
  | n, .tup l, e => by
    cases n with
    | zero => simp [plainD] at e
    | succ n =>
      simp only [toP, PyData.depth]
      exact Nat.succ_le_succ (depth_toPs l (by simpa [plainD] using e))
  | n, .lst l, e => by
    cases n with
    | zero => simp [plainD] at e
    | succ n =>
      simp only [toP, PyData.depth]
      exact Nat.succ_le_succ (depth_toPs l (by simpa [plainD] using e))
  | n, .scr _, _ => Nat.zero_le _
  | n, .drw, _ => Nat.zero_le _
theorem depth_toPs : ∀ {n : Nat} (l : List D), plainDs n l = true → PyData.depthAll (toPs l) ≤ n
  | n, [], _ => Nat.zero_le _
  | n, d :: r, e => by
    have e' := ba2 (show (plainD n d && plainDs n r) = true from by simpa [plainDs] using e)
    simp only [toPs, PyData.depthAll]
    exact Nat.max_le.mpr ⟨depth_toP d e'.1, depth_toPs r e'.2⟩
end
theorem shaped_of {K : PySem.W.Frag} {ad : Option Addr} {H : Hp} {v : V} {d : D} (r : RD K ad H v d) (e : plainD 60 d = true) : SeqAt.shaped (toP d) = true := by
  unfold SeqAt.shaped
  rw [r.lay, Bool.true_and, decide_eq_true]
  exact Nat.le_trans (depth_toP d e) (by decide)
mutual
theorem eqv_toP : ∀ {n m : Nat} (a b : D), plainD n a = true → plainD m b = true → PyData.eqv (toP a) (toP b) = eqD a b
  | n, m, a, b, ha, hb => by
    cases a with
    | tup l =>
      cases b with
      | tup r =>
        cases n with
        | zero => simp [plainD] at ha
        | succ n => cases m with
          | zero => simp [plainD] at hb
          | succ m =>
            simp only [toP, PyData.eqv, eqD]
            exact eqv_toPs l r (by simpa [plainD] using ha) (by simpa [plainD] using hb)
      | scr _ => cases m <;> simp [plainD] at hb
      | drw => cases m <;> simp [plainD] at hb
      | _ => simp [toP, PyData.eqv, eqD]
    | lst l =>
      cases b with
      | lst r =>
        cases n with
        | zero => simp [plainD] at ha
        | succ n => cases m with
          | zero => simp [plainD] at hb
          | succ m =>
            simp only [toP, PyData.eqv, eqD]
            exact eqv_toPs l r (by simpa [plainD] using ha) (by simpa [plainD] using hb)
      | scr _ => cases m <;> simp [plainD] at hb
      | drw => cases m <;> simp [plainD] at hb
      | _ => simp [toP, PyData.eqv, eqD]
    | scr _ => cases n <;> simp [plainD] at ha
    | drw => cases n <;> simp [plainD] at ha
    | _ => cases b <;> first | (simp [toP, PyData.eqv, eqD]; done) | (cases m <;> simp [plainD] at hb; done)
theorem eqv_toPs : ∀ {n m : Nat} (a b : List D), plainDs n a = true → plainDs m b = true → PyData.eqvAll (toPs a) (toPs b) = eqDs a b
  | _, _, [], [], _, _ => rfl
  | _, _, [], _ :: _, _, _ => rfl
  | _, _, _ :: _, [], _, _ => rfl
  | n, m, a :: r, b :: q, ha, hb => by
    have ha' := ba2 (show (plainD n a && plainDs n r) = true from by simpa [plainDs] using ha)
    have hb' := ba2 (show (plainD m b && plainDs m q) = true from by simpa [plainDs] using hb)
    simp only [toPs, PyData.eqvAll, eqDs]
    rw [eqv_toP a b ha'.1 hb'.1, eqv_toPs r q ha'.2 hb'.2]
end
/-- a flat datum's value -/
def toV : D → V
  | .bl b => .bl b
  | .int i => .int i
  | .str x => .str x
  | _ => .non
theorem RD.flatV {K : PySem.W.Frag} {ad : Option Addr} {H : Hp} {v : V} {d : D} (r : RD K ad H v d) (e : flatD d = true) : v = toV d ∧ L2.flatV v = true := by
  cases r <;> first | exact ⟨rfl, rfl⟩ | cases e
theorem eqV_toV {a b : D} (ha : flatD a = true) (hb : flatD b = true) : eqV (toV a) (toV b) = eqD a b := by
  cases a <;> cases b <;> simp_all [flatD, toV, eqV, eqD]
theorem RDs.flatV {K : PySem.W.Frag} {ad : Option Addr} {H : Hp} : ∀ {vs : List V} {ds : List D}, RDs K ad H vs ds → ds.all flatD = true → vs = ds.map toV ∧ vs.all L2.flatV = true
  | _, _, .nil, _ => ⟨rfl, rfl⟩
  | _, _, .cons h r, e => by
    rw [List.all_cons] at e
    obtain ⟨e1, e2⟩ := ba2 e
    obtain ⟨h1, h2⟩ := h.flatV e1
    obtain ⟨h3, h4⟩ := RDs.flatV r e2
    refine ⟨by rw [h1, h3]; rfl, ?_⟩
    rw [List.all_cons, h2, h4]; rfl
theorem inV_toV {x : D} (hx : flatD x = true) : ∀ {l : List D}, l.all flatD = true → inV (toV x) (l.map toV) = inD x l
  | [], _ => rfl
  | y :: r, e => by
    rw [List.all_cons] at e
    obtain ⟨e1, e2⟩ := ba2 e
    have ih := inV_toV hx e2
    unfold inV inD at *
    rw [List.map_cons, List.any_cons, List.any_cons, ih, eqV_toV e1 hx]
/-! ### the leaves -/
section
variable {X : Cx} {T : Ct} {c : Cc} {tb : Tab} {N : List Str} {ow : Option Scope} {sc : Scope} {W : WX} {k : Nat}
theorem s_k {d : D} {pos : Pos} {cst : Const} {j : Nat} {v : V} (h : PE X (.Constant cst j pos) (tC v)) (r : ∀ G, RD T.K T.ad G v d) : PE X (.Constant cst j pos) (semE T c W (.k d)) := by
  refine PE.mono h fun σ H Q q => ?_
  obtain ⟨G0, Hf, s0, G, s, env, t, er, q⟩ := q
  exact q v G H t.same (r G)
theorem s_v (gd : Gq X T c tb N ow sc k) {i : Nat} {x : Str} {pos : Pos} (hi : eqOS N[i]? x = true) (hv : visB sc x = true) (hn : nameB x = true) : PE X (.Name x pos) (semE T c W (.v i)) := by
  obtain ⟨n1, n2, _⟩ := nameB_ok hn
  refine PE.mono (pe_var (i := i) (by rw [gd.hN]; exact eqOS_ok hi) (by rw [gd.hsc]; exact visB_ok hv) n1 n2) fun σ H Q q => ?_
  obtain ⟨G0, Hf, s0, G, s, env, t, er, q⟩ := q
  rw [evE] at q
  split at q
  · rename_i o d e
    cases o with
    | false =>
      obtain ⟨v, h1, h2⟩ := er.sh i d e
      exact ⟨v, h1, q v G H t.same h2⟩
    | true =>
      obtain ⟨a, xs, ds, e1, e2, e3, e4, e5, e6, e7⟩ := er.ow i d e
      exact ⟨.ref a, e1, q (.ref a) G H t.same ⟨a, xs, ds, rfl, e2, e3, e4, e5, e6, e7, fun z => nomatch z⟩⟩
  · exact q.elim
theorem s_g (gd : Gq X T c tb N ow sc k) {i : Nat} {x : Str} {pos : Pos} (hi : eqOS tb.gl[i]? x = true) (hv : glB sc x = true) (hn : nameB x = true) : PE X (.Name x pos) (semE T c W (.g i)) := by
  obtain ⟨n1, n2, n3⟩ := nameB_ok hn
  obtain ⟨d, v, u, h1, h2, h3, h4⟩ := gd.tab.gl i x (eqOS_ok hi)
  refine PE.mono (pe_glob (glB_ok gd.hsc hv) h2 h3 n1) fun σ H Q q => ?_
  obtain ⟨G0, Hf, s0, G, s, env, t, er, q⟩ := q
  rw [evE, h1] at q
  exact q v G H t.same (h4 G)
/-! ### operators -/
theorem strOk_app {x y : Str} (hx : PyData.canLay0 (.str x) = true) (hy : PyData.canLay0 (.str y) = true) : PyData.canLay0 (.str (x ++ y)) = true := by
  obtain ⟨⟨a⟩⟩ := x
  obtain ⟨⟨b⟩⟩ := y
  have e : (⟨⟨a⟩⟩ ++ ⟨⟨b⟩⟩ : Str) = ⟨⟨a ++ b⟩⟩ := by
    show (⟨⟨a⟩ ++ ⟨b⟩⟩ : Str) = _
    simp
  rw [e]
  simp [PyData.canLay0, PyData.strOk] at hx hy ⊢
  exact ⟨hx, hy⟩
end
end Ev
set_option Elab.async false
set_option linter.all false
set_option maxRecDepth 100000
set_option maxHeartbeats 4000000
namespace Ev
open PySem PySem.Spec PyProof.Rows L2
open PySem.AutoSeq1 (wpAny_loadPart')
theorem tuple_mulW1 (l : Addr) (items : Array Value) (n : Nat) (dd : Option Addr) (sl : Array (Option Value)) (u : Tok) (c1 : (items.isEmpty || (1 : Int) == 1) = true) :
    Meets (Builtin.«tuple.__mul__» ⟨[.ref l, .int 1 u], []⟩) (fun _ R s => s.heap.get? l = some { cls := .type "tuple", dict := dd, data := .seq items n, slots := sl } ∧ R (.ok (.ret (Value.ref l))) { s with heap := s.heap, toks := s.toks }) :=
  .of_wp fun prog w A R s h => by
    obtain ⟨hp, g, d, tk, os⟩ := s
    obtain ⟨hl, h⟩ := h
    have f1 := AutoSeq1.idx_int
    wp_walk using wpAny_loadPart' hl
    repeat (first
      | (refine wpAny_ite_false (decide_eq_false (by decide)) ?_; wp_walk using wpAny_loadPart' hl)
      | (refine wpAny_ite_true (decide_eq_true c1) ?_; wp_walk using wpAny_loadPart' hl))
    exact ⟨_, rfl, h⟩
def rRepT1 (K : PySem.W.Frag) : R2 := fun x y H Q => ∃ l xs, x = .ref l ∧ y = .int 1 ∧ SqT K H l xs ∧ Q (.ref l) H
section
variable {X : Cx}
theorem op_repT1 : OpR X (binaryOp .Mult) (rRepT1 X.K) := by
  intro pins s σ H x y v u Q I rx ry h
  obtain ⟨l, xs, rfl, rfl, hT, q⟩ := h
  cases rx
  obtain ⟨t, rfl⟩ := ry
  obtain ⟨its, r, ⟨⟨cls, dd, data, sl⟩, ho, hc, n, hd⟩, hs⟩ := I.tuple hT
  simp only at hc hd
  subst hc hd
  have c1 : (its.toArray.isEmpty || (1 : Int) == 1) = true := by rw [Bool.or_eq_true]; exact .inr rfl
  refine wpAny_binaryOp_repeat_ref (T := "tuple") (U := "int") (by decide) ⟨_, ho, rfl⟩ (fun s' => typeIs_int s' 1 t) noFill_tuple_mul F.fills_int_mul F.slot_int_rmul repeat_tuple F.slot_int_index.lookup
    (call_meets F.slot_int_rmul (typeIs_int s 1 t) F.entry_int_rmul (F.args_int_rmul_2 _ _) (int_rmul_tuple 1 t l its.toArray n dd sl)
      ⟨ho, rfl, ⟨_, ho, rfl⟩, call_meets F.slot_tuple_mul ⟨_, ho, rfl⟩ F.entry_tuple_mul (F.args_tuple_mul_2 _ _) (tuple_mulW1 l its.toArray n dd sl t c1) ⟨ho, ?_⟩⟩)
  exact ⟨.ref l, H, I, rfl, q⟩
end
section
variable {X : Ct} {Hf H0 G H G0 : Hp} {s0 s : Sg} {k : Kd} {v : V}
theorem RV.int {i : Int} (r : RV X Hf H0 G H (k, .int i) v) : v = .int i := by
  have := r.flat (fun _ h => nomatch h)
  cases this; rfl
theorem RV.str {i : Str} (r : RV X Hf H0 G H (k, .str i) v) : v = .str i ∧ PyData.canLay0 (.str i) = true := by
  have := r.flat (fun _ h => nomatch h)
  cases this; exact ⟨rfl, by assumption⟩
theorem RV.bl {i : Bool} (r : RV X Hf H0 G H (k, .bl i) v) : v = .bl i := by
  have := r.flat (fun _ h => nomatch h)
  cases this; rfl
theorem RV.non (r : RV X Hf H0 G H (k, .non) v) : v = .non := by
  have := r.flat (fun _ h => nomatch h)
  cases this; rfl
theorem RV.tup {l : List D} (r : RV X Hf H0 G H (k, .tup l) v) : ∃ a xs, v = .ref a ∧ SqT X.K G a xs ∧ RDs X.K X.ad G xs l := by
  have := r.flat (fun _ h => nomatch h)
  cases this; exact ⟨_, _, rfl, by assumption, by assumption⟩
theorem newTup {xs : List V} {ds : List D} {p : Addr} {Q : VK} (t : Stp X G0 H0 s0 G H s) (r : RDs X.K X.ad G xs ds) (hp : H p = none)
    (q : ∀ v G' H', Stp X G0 H0 s0 G' H' s → RV X Hf H0 G' H' (.sh, .tup ds) v → Q v H') : Q (.ref p) (upd H p (.tup xs)) := by
  refine q _ (upd G p (.tup xs)) _ (t.newG hp) ?_
  have g : G p = none := by
    cases z : G p with
    | none => rfl
    | some u => rw [t.s _ _ z] at hp; cases hp
  exact RD.tup (.of upd_same) (r.mono (Sub.upd g))
theorem newLst {xs : List V} {ds : List D} {p : Addr} {Q : VK} (t : Stp X G0 H0 s0 G H s) (hf : ∀ a, H0 a = none → Hf a = none) (r : RDs X.K X.ad G xs ds) (hp : H p = none)
    (q : ∀ v G' H', Stp X G0 H0 s0 G' H' s → RV X Hf H0 G' H' (.fr, .lst ds) v → Q v H') : Q (.ref p) (upd H p (.lst xs)) := by
  refine q _ G _ (t.new hp) ?_
  have g : G p = none := by
    cases z : G p with
    | none => rfl
    | some u => rw [t.s _ _ z] at hp; cases hp
  exact ⟨p, xs, ds, rfl, rfl, upd_same, g, t.adNe hp, r, hf _ (t.n _ hp), fun _ => t.n _ hp⟩
end
section
variable {X : Cx} {T : Ct} {c : Cc} {tb : Tab} {N : List Str} {ow : Option Scope} {sc : Scope} {W : WX} {k : Nat}
/-- an operator, by its rule on data -/
theorem s_opR {o : Op} {op : Operator} {r : R2} {a b : Expr} {ea eb : E} {pos : Pos} (ho : OpR X (binaryOp op) r) (ha : PE X a (semE T c W ea)) (hb : PE X b (semE T c W eb))
    (h : ∀ {Hf G H G2 H2 : Hp} {s s2 : Sg} {kx ky kd : Kd} {dx dy d : D} {u v : V} {Q : VK}, (∀ a, H a = none → Hf a = none) → Stp T G H s G2 H2 s2 → RV T Hf H G2 H2 (kx, dx) u → RV T Hf H G2 H2 (ky, dy) v → opD o dx dy = some (kd, d) →
      (∀ v G' H', Stp T G H s G' H' s2 → RV T Hf H G' H' (kd, d) v → Q v H') → r u v H2 Q) : PE X (.BinOp a op b pos) (semE T c W (.op o ea eb)) := by
  refine PE.mono (pe_op ho ha hb) fun σ H Q q => ?_
  obtain ⟨G0, Hf, s0, G, s, env, t, er, q⟩ := q
  simp only [evE, Wp.bind] at q
  refine semE.two t er q fun x y u v G2 H2 s2 t2 rx ry q2 => ?_
  obtain ⟨⟨kd, d⟩, e, q3⟩ := q2.lift
  exact h t.n t2 rx ry e q3
theorem s_add {a b : Expr} {ea eb : E} {pos : Pos} (hK : X.K = T.K) (ha : PE X a (semE T c W ea)) (hb : PE X b (semE T c W eb)) : PE X (.BinOp a .Add b pos) (semE T c W (.op .add ea eb)) := by
  refine s_opR (op_add.or (op_add_str.or (op_cat.or op_catA))) ha hb fun {Hf G H G2 H2 s s2 kx ky kd dx dy d u v Q} hf t2 rx ry e q => ?_
  cases dx with
  | int i => cases dy with
    | int j =>
      cases e
      exact .inl ⟨i, j, rx.int, ry.int, q _ G2 H2 t2 (RD.int _)⟩
    | _ => cases e
  | str i => cases dy with
    | str j =>
      have e2 : (if i.length + j.length ≤ sizeLine then some (Kd.sh, D.str (i ++ j)) else none) = some (kd, d) := e
      split at e2
      · rename_i hl
        cases e2
        exact .inr (.inl ⟨i, j, rx.str.1, ry.str.1, hl, q _ G2 H2 t2 (RD.str _ (strOk_app rx.str.2 ry.str.2))⟩)
      · cases e2
    | _ => cases e
  | lst l => cases dy with
    | lst m =>
      have e2 : (if l.length + m.length ≤ sizeLine then some (Kd.fr, D.lst (l ++ m)) else none) = some (kd, d) := e
      split at e2
      · rename_i hl
        cases e2
        obtain ⟨a, xs, e1, h1, r1⟩ := rx.list t2.s
        obtain ⟨b, ys, e3, h2, r2⟩ := ry.list t2.s
        exact .inr (.inr (.inl ⟨a, b, xs, ys, e1, e3, h1, h2, by rw [r1.length, r2.length]; exact hl, fun p hp => newLst t2 hf (r1.append r2) hp q⟩))
      · cases e2
    | _ => cases e
  | tup l => cases dy with
    | tup m =>
      have e2 : (if l.length + m.length ≤ sizeLine then some (Kd.sh, D.tup (l ++ m)) else none) = some (kd, d) := e
      split at e2
      · rename_i hl
        cases e2
        obtain ⟨a, xs, e1, h1, r1⟩ := rx.tup
        obtain ⟨b, ys, e3, h2, r2⟩ := ry.tup
        refine .inr (.inr (.inr ⟨a, b, xs, ys, e1, e3, ?_, ?_, by rw [r1.length, r2.length]; exact hl, fun z => ?_, fun _ z => ?_, fun _ _ p hp => newTup t2 (r1.append r2) hp q⟩))
        · rw [hK]; exact t2.s.sqT h1
        · rw [hK]; exact t2.s.sqT h2
        · subst z
          cases r1
          exact q _ G2 H2 t2 (RD.tup h2 r2)
        · subst z
          cases r2
          rw [List.append_nil] at q
          exact q _ G2 H2 t2 (RD.tup h1 r1)
      · cases e2
    | _ => cases e
  | _ => cases dy <;> cases e
theorem s_sub {a b : Expr} {ea eb : E} {pos : Pos} (ha : PE X a (semE T c W ea)) (hb : PE X b (semE T c W eb)) : PE X (.BinOp a .Sub b pos) (semE T c W (.op .sub ea eb)) := by
  refine s_opR op_sub ha hb fun {Hf G H G2 H2 s s2 kx ky kd dx dy d u v Q} hf t2 rx ry e q => ?_
  cases dx with
  | int i => cases dy with
    | int j => cases e; exact ⟨i, j, rx.int, ry.int, q _ G2 H2 t2 (RD.int _)⟩
    | _ => cases e
  | _ => cases dy <;> cases e
theorem s_mul {a b : Expr} {ea eb : E} {pos : Pos} (hK : X.K = T.K) (ha : PE X a (semE T c W ea)) (hb : PE X b (semE T c W eb)) : PE X (.BinOp a .Mult b pos) (semE T c W (.op .mul ea eb)) := by
  refine s_opR (op_mul.or (op_rep.or (op_repT.or op_repT1))) ha hb fun {Hf G H G2 H2 s s2 kx ky kd dx dy d u v Q} hf t2 rx ry e q => ?_
  cases dx with
  | int i => cases dy with
    | int j =>
      have e2 : (if wideOk i j = true then some (Kd.sh, D.int (i * j)) else none) = some (kd, d) := e
      split at e2
      · rename_i hl
        cases e2
        refine .inl ⟨i, j, rx.int, ry.int, ?_, q _ G2 H2 t2 (RD.int _)⟩
        simpa [wideOk, CMul] using hl
      · cases e2
    | _ => cases e
  | lst l => cases dy with
    | int j =>
      have e2 : (if -1000000000 ≤ j ∧ j ≤ 1000000000 ∧ l.length * j.toNat ≤ sizeLine then some (Kd.fr, D.lst (repD j.toNat l)) else none) = some (kd, d) := e
      split at e2
      · rename_i hl
        cases e2
        obtain ⟨a, xs, e1, h1, r1⟩ := rx.list t2.s
        exact .inr (.inl ⟨a, j, xs, e1, ry.int, h1, by omega, by omega, by rw [r1.length]; exact hl.2.2, fun p hp => newLst t2 hf (r1.rep _) hp q⟩)
      · cases e2
    | _ => cases e
  | tup l => cases dy with
    | int j =>
      have e2 : (if l ≠ [] ∧ 1 ≤ j ∧ j ≤ 1000 ∧ l.length ≤ 1000 then some (Kd.sh, D.tup (repD j.toNat l)) else none) = some (kd, d) := e
      split at e2
      · rename_i hl
        cases e2
        obtain ⟨a, xs, e1, h1, r1⟩ := rx.tup
        by_cases hj : j = 1
        · subst hj
          have q1 : repD (1 : Int).toNat l = l := by
            show (List.replicate 1 l).flatten = l
            rw [List.replicate_one, List.flatten_cons, List.flatten_nil, List.append_nil]
          rw [q1] at q
          exact .inr (.inr (.inr ⟨a, xs, e1, ry.int, by rw [hK]; exact t2.s.sqT h1, q _ G2 H2 t2 (RD.tup h1 r1)⟩))
        refine .inr (.inr (.inl ⟨a, j, xs, e1, ry.int, by rw [hK]; exact t2.s.sqT h1, fun z => ?_, by have := hl.2.1; omega, hl.2.2.1, by rw [r1.length]; exact hl.2.2.2, fun p hp => newTup t2 (r1.rep _) hp q⟩))
        subst z
        cases r1
        exact hl.1 rfl
      · cases e2
    | _ => cases e
  | _ => cases dy <;> cases e
theorem s_fdiv {a b : Expr} {ea eb : E} {pos : Pos} (ha : PE X a (semE T c W ea)) (hb : PE X b (semE T c W eb)) : PE X (.BinOp a .FloorDiv b pos) (semE T c W (.op .fdiv ea eb)) := by
  refine s_opR op_fdivN ha hb fun {Hf G H G2 H2 s s2 kx ky kd dx dy d u v Q} hf t2 rx ry e q => ?_
  cases dx with
  | int i => cases dy with
    | int j =>
      have e2 : (if j ≠ 0 ∧ j.natAbs < 1073741824 then some (Kd.sh, D.int (i.fdiv j)) else none) = some (kd, d) := e
      split at e2
      · rename_i hl; cases e2; exact ⟨i, j, rx.int, ry.int, hl, q _ G2 H2 t2 (RD.int _)⟩
      · cases e2
    | _ => cases e
  | _ => cases dy <;> cases e
theorem s_mod {a b : Expr} {ea eb : E} {pos : Pos} (ha : PE X a (semE T c W ea)) (hb : PE X b (semE T c W eb)) : PE X (.BinOp a .Mod b pos) (semE T c W (.op .mod ea eb)) := by
  refine s_opR op_modN ha hb fun {Hf G H G2 H2 s s2 kx ky kd dx dy d u v Q} hf t2 rx ry e q => ?_
  cases dx with
  | int i => cases dy with
    | int j =>
      have e2 : (if j ≠ 0 then some (Kd.sh, D.int (i.fmod j)) else none) = some (kd, d) := e
      split at e2
      · rename_i hl; cases e2; exact ⟨i, j, rx.int, ry.int, hl, q _ G2 H2 t2 (RD.int _)⟩
      · cases e2
    | _ => cases e
  | _ => cases dy <;> cases e
theorem s_neg {a : Expr} {ea : E} {pos : Pos} (ha : PE X a (semE T c W ea)) : PE X (.UnaryOp .USub a pos) (semE T c W (.neg ea)) := by
  refine PE.mono (pe_un un_neg ha) fun σ H Q q => ?_
  obtain ⟨G0, Hf, s0, G, s, env, t, er, q⟩ := q
  simp only [evE, Wp.bind] at q
  refine semE.one t er q fun x u G1 H1 s1 t1 rx q1 => ?_
  obtain ⟨kx, dx⟩ := x
  cases dx with
  | int i => exact ⟨i, rx.int, q1 _ G1 H1 t1 (RD.int _)⟩
  | _ => exact q1.elim
/-! ### comparisons -/
/-- what is asked of a comparison -/
def rCm (T : Ct) (o : Cm) : R2 := fun u v H Q => ∃ (Hf H0 G : Hp) (kx ky : Kd) (dx dy : D) (b : Bool), Sub G H ∧ RV T Hf H0 G H (kx, dx) u ∧ RV T Hf H0 G H (ky, dy) v ∧ cmD o dx dy = some b ∧ Q (.bl b) H
def cmOp : Cm → CmpOp
  | .eq => .Eq | .ne => .NotEq | .lt => .Lt | .le => .LtE | .gt => .Gt | .ge => .GtE | .is_ => .Is | .isnt => .IsNot | .in_ => .In | .notin => .NotIn
theorem OpR.mono {f : Value → Value → Sem Value} {r r' : R2} (h : OpR X f r) (m : ∀ x y H Q, r' x y H Q → r x y H Q) : OpR X f r' := fun pins s σ H x y v u Q I rx ry q => h pins s σ H x y v u Q I rx ry (m _ _ _ _ q)
/-- x in y, of data -/
def rInX (K : PySem.W.Frag) (g : Bool → Bool) : R2 := fun x y H Q => ∃ d ds, Dp K H x d ∧ (Dp K H y (.list ds) ∨ Dp K H y (.tuple ds)) ∧ d.canLay0 = true ∧ PyData.canLayAll0 ds = true ∧ d.depth ≤ 60 ∧ Q (.bl (g (ds.any fun z => PyData.eqv z d))) H
theorem op_inX (hu : X.A.units + 64 < cLine) : OpR X (compareOp .In) (rInX X.K id) := by
  intro pins s σ H x y v u Q I rx ry h
  obtain ⟨d, ds, hd, he, sd, se, dd, q⟩ := h
  obtain ⟨as, r1⟩ := Dp.reads I d x v hd rx
  have room : X.A.units + 1 + min (PyData.depthAll ds) d.depth < cLine := by
    have : min (PyData.depthAll ds) d.depth ≤ d.depth := Nat.min_le_right _ _
    omega
  rcases he with he | he
  · obtain ⟨bs, r2⟩ := Dp.reads I (.list ds) y u he ry
    exact SeqAt.in_list_reads r2 r1 se sd room ⟨.bl _, H, I, rfl, q⟩
  · obtain ⟨bs, r2⟩ := Dp.reads I (.tuple ds) y u he ry
    exact SeqAt.in_tuple_reads r2 r1 se sd room ⟨.bl _, H, I, rfl, q⟩
theorem op_notInX (hu : X.A.units + 64 < cLine) : OpR X (compareOp .NotIn) (rInX X.K (!·)) := by
  intro pins s σ H x y v u Q I rx ry h
  obtain ⟨d, ds, hd, he, sd, se, dd, q⟩ := h
  obtain ⟨as, r1⟩ := Dp.reads I d x v hd rx
  have room : X.A.units + 1 + min (PyData.depthAll ds) d.depth < cLine := by
    have : min (PyData.depthAll ds) d.depth ≤ d.depth := Nat.min_le_right _ _
    omega
  rcases he with he | he
  · obtain ⟨bs, r2⟩ := Dp.reads I (.list ds) y u he ry
    exact SeqAt.notIn_list_reads r2 r1 se sd room ⟨.bl _, H, I, rfl, q⟩
  · obtain ⟨bs, r2⟩ := Dp.reads I (.tuple ds) y u he ry
    exact SeqAt.notIn_tuple_reads r2 r1 se sd room ⟨.bl _, H, I, rfl, q⟩
theorem any_toP {dx : D} (p1 : plainD 60 dx = true) : ∀ {n : Nat} {l : List D}, plainDs n l = true → ((toPs l).any fun z => PyData.eqv z (toP dx)) = inD dx l
  | _, [], _ => rfl
  | n, d :: r, h => by
    obtain ⟨h1, h2⟩ := ba2 (show (plainD n d && plainDs n r) = true from by simpa [plainDs] using h)
    show (PyData.eqv (toP d) (toP dx) || (toPs r).any _) = (eqD d dx || r.any _)
    rw [eqv_toP d dx h1 p1, any_toP p1 h2]; rfl
theorem rIn_of {K : PySem.W.Frag} {ad : Option Addr} {G H : Hp} {x y : V} {dx : D} {l : List D} {g : Bool → Bool} {Q : VK} (hK : X.K = K) (rx : RD K ad H x dx) (ry : RD K ad H y (.lst l) ∨ RD K ad H y (.tup l)) (p1 : plainD 60 dx = true) (p2 : plainDs 59 l = true) (q : Q (.bl (g (inD dx l))) H) : rInX X.K g x y H Q := by
  refine ⟨toP dx, toPs l, by rw [hK]; exact rx.dp p1, ?_, rx.lay, ?_, depth_toP dx p1, by rw [any_toP p1 p2]; exact q⟩
  · rw [hK]
    rcases ry with ry | ry
    · exact .inl (ry.dp (n := 60) p2)
    · exact .inr (ry.dp (n := 60) p2)
  · rcases ry with ry | ry
    · have := ry.lay
      simpa [toP, PyData.canLay0] using this
    · have := ry.lay
      simpa [toP, PyData.canLay0] using this
theorem cm_rule (hK : X.K = T.K) (hu : X.A.units + 64 < cLine) (o : Cm) : OpR X (compareOp (cmOp o)) (rCm T o) := by
  cases o with
  | eq =>
    refine OpR.mono (op_eqD hu) fun x y H Q h => ?_
    obtain ⟨Hf, H0, G, kx, ky, dx, dy, b, sb, rx, ry, e, q⟩ := h
    have e2 : (if (plainD 60 dx && plainD 60 dy) = true then some (eqD dx dy) else none) = some b := e
    split at e2
    · rename_i hp
      obtain ⟨p1, p2⟩ := ba2 hp
      cases e2
      have r1 := rx.any sb
      have r2 := ry.any sb
      refine ⟨toP dx, toP dy, by rw [hK]; exact r1.dp p1, by rw [hK]; exact r2.dp p2, shaped_of r1 p1, shaped_of r2 p2, ?_⟩
      rw [eqv_toP dx dy p1 p2]; exact q
    · cases e2
  | ne =>
    refine OpR.mono (op_neD hu) fun x y H Q h => ?_
    obtain ⟨Hf, H0, G, kx, ky, dx, dy, b, sb, rx, ry, e, q⟩ := h
    have e2 : (if (plainD 60 dx && plainD 60 dy) = true then some (!eqD dx dy) else none) = some b := e
    split at e2
    · rename_i hp
      obtain ⟨p1, p2⟩ := ba2 hp
      cases e2
      have r1 := rx.any sb
      have r2 := ry.any sb
      refine ⟨toP dx, toP dy, by rw [hK]; exact r1.dp p1, by rw [hK]; exact r2.dp p2, shaped_of r1 p1, shaped_of r2 p2, ?_⟩
      rw [eqv_toP dx dy p1 p2]; exact q
    · cases e2
  | lt =>
    refine OpR.mono (op_lt.or (op_ltT (by omega))) fun x y H Q h => ?_
    obtain ⟨Hf, H0, G, kx, ky, dx, dy, b, sb, rx, ry, e, q⟩ := h
    cases dx with
    | int i => cases dy with
      | int j => cases e; exact .inl ⟨i, j, rx.int, ry.int, q⟩
      | _ => cases e
    | tup l => cases dy with
      | tup m =>
        have e2 : ((intsD l).bind fun a => (intsD m).map fun b => HT.lexLt a b) = some b := e
        cases e3 : intsD l with
        | none => rw [e3] at e2; cases e2
        | some ns => cases e4 : intsD m with
          | none => rw [e3, e4] at e2; cases e2
          | some ms =>
            rw [e3, e4] at e2
            cases e2
            obtain ⟨a, xs, z1, h1, r1⟩ := rx.tup
            obtain ⟨b, ys, z2, h2, r2⟩ := ry.tup
            rw [r1.ints e3] at h1
            rw [r2.ints e4] at h2
            exact .inr ⟨a, b, ns, ms, z1, z2, by rw [hK]; exact sb.sqT h1, by rw [hK]; exact sb.sqT h2, q⟩
      | _ => cases e
    | _ => cases dy <;> cases e
  | le =>
    refine OpR.mono op_le fun x y H Q h => ?_
    obtain ⟨Hf, H0, G, kx, ky, dx, dy, b, sb, rx, ry, e, q⟩ := h
    cases dx with
    | int i => cases dy with
      | int j => cases e; exact ⟨i, j, rx.int, ry.int, q⟩
      | _ => cases e
    | _ => cases dy <;> cases e
  | gt =>
    refine OpR.mono op_gt fun x y H Q h => ?_
    obtain ⟨Hf, H0, G, kx, ky, dx, dy, b, sb, rx, ry, e, q⟩ := h
    cases dx with
    | int i => cases dy with
      | int j => cases e; exact ⟨i, j, rx.int, ry.int, q⟩
      | _ => cases e
    | _ => cases dy <;> cases e
  | ge =>
    refine OpR.mono op_ge fun x y H Q h => ?_
    obtain ⟨Hf, H0, G, kx, ky, dx, dy, b, sb, rx, ry, e, q⟩ := h
    cases dx with
    | int i => cases dy with
      | int j => cases e; exact ⟨i, j, rx.int, ry.int, q⟩
      | _ => cases e
    | _ => cases dy <;> cases e
  | is_ =>
    refine OpR.mono (op_isN.or op_isBl) fun x y H Q h => ?_
    obtain ⟨Hf, H0, G, kx, ky, dx, dy, b, sb, rx, ry, e, q⟩ := h
    cases dy with
    | non =>
      refine .inl ⟨ry.non, ?_⟩
      have r1 := rx.any sb
      have : decide (x = V.non) = b := by
        cases r1 <;> cases e <;> first | rfl | exact decide_eq_false fun z => nomatch z
      rw [this]; exact q
    | bl j => cases dx with
      | bl i => cases e; exact .inr ⟨i, j, rx.bl, ry.bl, q⟩
      | _ => cases e
    | _ => cases dx <;> cases e
  | isnt =>
    refine OpR.mono (op_notN.or op_notBl) fun x y H Q h => ?_
    obtain ⟨Hf, H0, G, kx, ky, dx, dy, b, sb, rx, ry, e, q⟩ := h
    cases dy with
    | non =>
      refine .inl ⟨ry.non, ?_⟩
      have r1 := rx.any sb
      have : (!decide (x = V.non)) = b := by
        cases r1 <;> cases e <;> first | rfl | exact congrArg (!·) (decide_eq_false fun z => nomatch z)
      rw [this]; exact q
    | bl j => cases dx with
      | bl i => cases e; exact .inr ⟨i, j, rx.bl, ry.bl, q⟩
      | _ => cases e
    | _ => cases dx <;> cases e
  | in_ =>
    refine OpR.mono (op_in_seq.or (op_inX hu)) fun x y H Q h => ?_
    obtain ⟨Hf, H0, G, kx, ky, dx, dy, b, sb, rx, ry, e, q⟩ := h
    cases dy with
    | lst l =>
      have e2 : (if (flatD dx && l.all flatD) = true then some (inD dx l) else if (plainD 60 dx && plainDs 59 l) = true then some (inD dx l) else none) = some b := e
      split at e2
      · rename_i hp
        obtain ⟨p1, p2⟩ := ba2 hp
        cases e2
        obtain ⟨f1, f2⟩ := (rx.any sb).flatV p1
        obtain ⟨a, ys, z2, h2, r2⟩ := ry.list sb
        obtain ⟨f3, f4⟩ := r2.flatV p2
        refine .inl ⟨a, ys, z2, .inl (.of h2), f2, f4, ?_⟩
        rw [f1, f3, inV_toV p1 p2]; exact q
      · split at e2
        · rename_i hp
          obtain ⟨p1, p2⟩ := ba2 hp
          cases e2
          exact .inr (rIn_of (G := G) hK (rx.any sb) (.inl (ry.any sb)) p1 p2 q)
        · cases e2
    | tup l =>
      have e2 : (if (flatD dx && l.all flatD) = true then some (inD dx l) else if (plainD 60 dx && plainDs 59 l) = true then some (inD dx l) else none) = some b := e
      split at e2
      · rename_i hp
        obtain ⟨p1, p2⟩ := ba2 hp
        cases e2
        obtain ⟨f1, f2⟩ := (rx.any sb).flatV p1
        obtain ⟨a, ys, z2, h2, r2⟩ := ry.tup
        obtain ⟨f3, f4⟩ := r2.flatV p2
        refine .inl ⟨a, ys, z2, .inr (by rw [hK]; exact sb.sqT h2), f2, f4, ?_⟩
        rw [f1, f3, inV_toV p1 p2]; exact q
      · split at e2
        · rename_i hp
          obtain ⟨p1, p2⟩ := ba2 hp
          cases e2
          exact .inr (rIn_of (G := G) hK (rx.any sb) (.inr (ry.any sb)) p1 p2 q)
        · cases e2
    | _ => cases dx <;> cases e
  | notin =>
    refine OpR.mono (op_notIn_seq.or (op_notInX hu)) fun x y H Q h => ?_
    obtain ⟨Hf, H0, G, kx, ky, dx, dy, b, sb, rx, ry, e, q⟩ := h
    cases dy with
    | lst l =>
      have e2 : (if (flatD dx && l.all flatD) = true then some (!inD dx l) else if (plainD 60 dx && plainDs 59 l) = true then some (!inD dx l) else none) = some b := e
      split at e2
      · rename_i hp
        obtain ⟨p1, p2⟩ := ba2 hp
        cases e2
        obtain ⟨f1, f2⟩ := (rx.any sb).flatV p1
        obtain ⟨a, ys, z2, h2, r2⟩ := ry.list sb
        obtain ⟨f3, f4⟩ := r2.flatV p2
        refine .inl ⟨a, ys, z2, .inl (.of h2), f2, f4, ?_⟩
        rw [f1, f3, inV_toV p1 p2]; exact q
      · split at e2
        · rename_i hp
          obtain ⟨p1, p2⟩ := ba2 hp
          cases e2
          exact .inr (rIn_of (G := G) hK (rx.any sb) (.inl (ry.any sb)) p1 p2 q)
        · cases e2
    | tup l =>
      have e2 : (if (flatD dx && l.all flatD) = true then some (!inD dx l) else if (plainD 60 dx && plainDs 59 l) = true then some (!inD dx l) else none) = some b := e
      split at e2
      · rename_i hp
        obtain ⟨p1, p2⟩ := ba2 hp
        cases e2
        obtain ⟨f1, f2⟩ := (rx.any sb).flatV p1
        obtain ⟨a, ys, z2, h2, r2⟩ := ry.tup
        obtain ⟨f3, f4⟩ := r2.flatV p2
        refine .inl ⟨a, ys, z2, .inr (by rw [hK]; exact sb.sqT h2), f2, f4, ?_⟩
        rw [f1, f3, inV_toV p1 p2]; exact q
      · split at e2
        · rename_i hp
          obtain ⟨p1, p2⟩ := ba2 hp
          cases e2
          exact .inr (rIn_of (G := G) hK (rx.any sb) (.inr (ry.any sb)) p1 p2 q)
        · cases e2
    | _ => cases dx <;> cases e
end
end Ev
set_option Elab.async false
set_option linter.all false
set_option maxRecDepth 100000
set_option maxHeartbeats 4000000
namespace Ev
open PySem PySem.Spec PyProof.Rows L2
section
variable {X : Cx} {T : Ct} {c : Cc} {tb : Tab} {N : List Str} {ow : Option Scope} {sc : Scope} {W : WX} {k : Nat}
/-! ### comparisons as values, as tests -/
theorem s_cmp {o : Cm} {a b : Expr} {ea eb : E} {pos : Pos} (hK : X.K = T.K) (hu : X.A.units + 64 < cLine) (hm : behindInMarks (cmOp o) b = false) (ha : PE X a (semE T c W ea)) (hb : PE X b (semE T c W eb)) : PE X (.Compare a [cmOp o] [b] pos) (semE T c W (.cmp o ea eb)) := by
  refine PE.mono (pe_cmpR (cm_rule hK hu o) ha hb hm) fun σ H Q q => ?_
  obtain ⟨G0, Hf, s0, G, s, env, t, er, q⟩ := q
  simp only [evE, Wp.bind] at q
  refine semE.two t er q fun x y u v G2 H2 s2 t2 rx ry q2 => ?_
  obtain ⟨z, e, q3⟩ := q2.lift
  obtain ⟨b, e1, rfl⟩ := Option.map_eq_some_iff.mp e
  exact ⟨Hf, H, G2, x.1, y.1, x.2, y.2, b, t2.s, rx, ry, e1, q3 _ G2 H2 t2 (RD.bl b)⟩
theorem t_cmp {o : Cm} {a b : Expr} {ea eb : E} {pos : Pos} (hK : X.K = T.K) (hu : X.A.units + 64 < cLine) (hm : behindInMarks (cmOp o) b = false) (ha : PE X a (semE T c W ea)) (hb : PE X b (semE T c W eb)) : PT X (.Compare a [cmOp o] [b] pos) (semT T c W (.cmp o ea eb)) := by
  refine PT.mono (pt_cmpR (cm_rule hK hu o) ha hb hm) fun σ H Q q => ?_
  obtain ⟨G0, Hf, s0, G, s, env, t, er, q⟩ := q
  simp only [evT, evE, Wp.bind] at q
  refine semE.two t er q fun x y u v G2 H2 s2 t2 rx ry q2 => ?_
  obtain ⟨z, e, q3⟩ := q2.lift
  obtain ⟨b, e1, rfl⟩ := Option.map_eq_some_iff.mp e
  exact ⟨Hf, H, G2, x.1, y.1, x.2, y.2, b, t2.s, rx, ry, e1, b, rfl, q3 G2 H2 t2⟩
theorem s_chn {o o' : Cm} {a b d : Expr} {ea eb ed : E} {pos : Pos} (hK : X.K = T.K) (hu : X.A.units + 64 < cLine) (hm : lastMarks [cmOp o, cmOp o'] [b, d] = false) (ha : PE X a (semE T c W ea)) (hb : PE X b (semE T c W eb)) (hd : PE X d (semE T c W ed)) :
    PE X (.Compare a [cmOp o, cmOp o'] [b, d] pos) (semE T c W (.chn o o' ea eb ed)) := by
  refine PE.mono (pe_chain (cm_rule hK hu o) (cm_rule hK hu o') ha hb hd hm) fun σ H Q q => ?_
  obtain ⟨G0, Hf, s0, G, s, env, t, er, q⟩ := q
  simp only [evE, Wp.bind] at q
  refine semE.two t er q fun x y u v G2 H2 s2 t2 rx ry q2 => ?_
  obtain ⟨b, e, q3⟩ := q2.lift
  refine ⟨Hf, H, G2, x.1, y.1, x.2, y.2, b, t2.s, rx, ry, e, b, rfl, ?_⟩
  cases b with
  | false => exact q3 _ G2 H2 t2 (RD.bl false)
  | true =>
    simp only [if_true, Wp.bind] at q3 ⊢
    refine semE.one (t.trans t2) (er.step t2) (q3.imp (fun _ _ z => z) fun _ _ z => z.step t2) fun z w G3 H3 s3 t3 rz q4 => ?_
    obtain ⟨m, e5, q5⟩ := q4.lift
    obtain ⟨b, e6, rfl⟩ := Option.map_eq_some_iff.mp e5
    exact ⟨Hf, H, G3, y.1, z.1, y.2, z.2, b, t3.s, ry.step t3, rz.from t2.n, e6, q5 _ G3 H3 (t2.trans t3) (RD.bl b)⟩
theorem t_chn {o o' : Cm} {a b d : Expr} {ea eb ed : E} {pos : Pos} (hK : X.K = T.K) (hu : X.A.units + 64 < cLine) (hm : lastMarks [cmOp o, cmOp o'] [b, d] = false) (ha : PE X a (semE T c W ea)) (hb : PE X b (semE T c W eb)) (hd : PE X d (semE T c W ed)) :
    PT X (.Compare a [cmOp o, cmOp o'] [b, d] pos) (semT T c W (.chn o o' ea eb ed)) := by
  refine PT.mono (pt_chain (cm_rule hK hu o) (cm_rule hK hu o') ha hb hd hm) fun σ H Q q => ?_
  obtain ⟨G0, Hf, s0, G, s, env, t, er, q⟩ := q
  simp only [evT, evE, Wp.bind] at q
  refine semE.two t er q fun x y u v G2 H2 s2 t2 rx ry q2 => ?_
  obtain ⟨b, e, q3⟩ := q2.lift
  refine ⟨Hf, H, G2, x.1, y.1, x.2, y.2, b, t2.s, rx, ry, e, b, rfl, ?_⟩
  cases b with
  | false => exact ⟨false, rfl, q3 G2 H2 t2⟩
  | true =>
    simp only [if_true, Wp.bind] at q3 ⊢
    refine semE.one (t.trans t2) (er.step t2) (q3.imp (fun _ _ z => z) fun _ _ z => z.step t2) fun z w G3 H3 s3 t3 rz q4 => ?_
    obtain ⟨m, e5, q5⟩ := q4.lift
    obtain ⟨b, e6, rfl⟩ := Option.map_eq_some_iff.mp e5
    exact ⟨Hf, H, G3, y.1, z.1, y.2, z.2, b, t3.s, ry.step t3, rz.from t2.n, e6, b, rfl, q5 G3 H3 (t2.trans t3)⟩
/-! ### tests -/
theorem truV {H0 Hf G H : Hp} {x : VD} {v : V} {b : Bool} (hK : X.K = T.K) (r : RV T Hf H0 G H x v) (s : Sub G H) (e : truD x.2 = some b) : TruV X.K v H b := by
  rw [hK]; exact (r.any s).tru e
/-- the truth of a value -/
theorem t_tru {a : Expr} {ea : E} (hK : X.K = T.K) (hp : plainTest a = true) (ha : PE X a (semE T c W ea)) : PT X a (semT T c W ea) := by
  refine PT.mono (pt_truth ha (plainTest_ok hp X.env)) fun σ H Q q => ?_
  obtain ⟨G0, Hf, s0, G, s, env, t, er, q⟩ := q
  simp only [evT, Wp.bind] at q
  refine semE.one t er q fun x u G1 H1 s1 t1 rx q1 => ?_
  obtain ⟨b, e, q2⟩ := q1.lift
  exact ⟨b, truV hK rx t1.s e, q2 G1 H1 t1⟩
theorem s_and {a b : Expr} {rest : List Expr} {ea eb : E} {pos : Pos} (hK : X.K = T.K) (ha : PE X a (semE T c W ea)) (hb : PE X (.BoolOp .And (b :: rest) pos) (semE T c W eb)) : PE X (.BoolOp .And (a :: b :: rest) pos) (semE T c W (.and_ ea eb)) := by
  refine PE.mono (pe_andT ha hb) fun σ H Q q => ?_
  obtain ⟨G0, Hf, s0, G, s, env, t, er, q⟩ := q
  simp only [evE, Wp.bind] at q
  refine semE.one t er q fun x u G1 H1 s1 t1 rx q1 => ?_
  obtain ⟨b, e, q2⟩ := q1.lift
  refine ⟨b, truV hK rx t1.s e, ?_⟩
  cases b with
  | false => exact q2 u G1 H1 t1 rx
  | true =>
    simp only [if_true] at q2 ⊢
    exact semE.one (t.trans t1) (er.step t1) (q2.imp (fun _ _ z => z) fun _ _ z => z.step t1) fun z w G3 H3 s3 t3 rz q4 => q4 w G3 H3 (t1.trans t3) (rz.from t1.n)
theorem s_or {a b : Expr} {rest : List Expr} {ea eb : E} {pos : Pos} (hK : X.K = T.K) (ha : PE X a (semE T c W ea)) (hb : PE X (.BoolOp .Or (b :: rest) pos) (semE T c W eb)) : PE X (.BoolOp .Or (a :: b :: rest) pos) (semE T c W (.or_ ea eb)) := by
  refine PE.mono (pe_orT ha hb) fun σ H Q q => ?_
  obtain ⟨G0, Hf, s0, G, s, env, t, er, q⟩ := q
  simp only [evE, Wp.bind] at q
  refine semE.one t er q fun x u G1 H1 s1 t1 rx q1 => ?_
  obtain ⟨b, e, q2⟩ := q1.lift
  refine ⟨b, truV hK rx t1.s e, ?_⟩
  cases b with
  | true => exact q2 u G1 H1 t1 rx
  | false =>
    simp only [Bool.false_eq_true, if_false] at q2 ⊢
    exact semE.one (t.trans t1) (er.step t1) (q2.imp (fun _ _ z => z) fun _ _ z => z.step t1) fun z w G3 H3 s3 t3 rz q4 => q4 w G3 H3 (t1.trans t3) (rz.from t1.n)
theorem w_and {a b : Expr} {rest : List Expr} {ea eb : E} {pos : Pos} (ha : PT X a (semT T c W ea)) (hb : PW X (.BoolOp .And (b :: rest) pos) (semT T c W eb)) : PW X (.BoolOp .And (a :: b :: rest) pos) (semT T c W (.and_ ea eb)) := by
  refine PW.mono (pw_and ha hb) fun σ H Q q => ?_
  obtain ⟨G0, Hf, s0, G, s, env, t, er, q⟩ := q
  simp only [evT, evE, Wp.bind] at q
  refine semT.one (f := fun b s2 => Wp (if b = true then evT c eb env s2 else .ok false s2) (fun b s' => ∀ G' H', Stp T G H s G' H' s' → Q b H') (exW T W σ G H s)) t er ?_ fun b G1 H1 s1 t1 q2 => ?_
  · simp only [evT, Wp.bind]
    refine q.imp (fun x s1 z => ?_) fun _ _ z => z
    cases e : truD x.2 with
    | none => rw [e] at z; exact z.elim
    | some b =>
      rw [e] at z
      cases b with
      | true =>
        have z' : Wp (evE c eb env s1) (fun x s2 => Wp (lift ((truD x.2)) s2) (fun b s' => ∀ G' H', Stp T G H s G' H' s' → Q b H') (exW T W σ G H s)) (exW T W σ G H s) := z
        show Wp ((evE c eb env s1).bind fun x s2 => lift (truD x.2) s2) _ _
        rw [Wp.bind]; exact z'
      | false =>
        simp only [lift, Wp, Bool.false_eq_true, if_false] at z ⊢
        rw [e] at z; exact z
  · cases b with
    | false => exact q2 G1 H1 t1
    | true =>
      simp only [if_true] at q2 ⊢
      exact semT.one (t.trans t1) (er.step t1) (q2.imp (fun _ _ z => z) fun _ _ z => z.step t1) fun z G3 H3 s3 t3 q4 => q4 G3 H3 (t1.trans t3)
theorem w_or {a b : Expr} {rest : List Expr} {ea eb : E} {pos : Pos} (ha : PT X a (semT T c W ea)) (hb : PW X (.BoolOp .Or (b :: rest) pos) (semT T c W eb)) : PW X (.BoolOp .Or (a :: b :: rest) pos) (semT T c W (.or_ ea eb)) := by
  refine PW.mono (pw_or ha hb) fun σ H Q q => ?_
  obtain ⟨G0, Hf, s0, G, s, env, t, er, q⟩ := q
  simp only [evT, evE, Wp.bind] at q
  refine semT.one (f := fun b s2 => Wp (if b = true then .ok true s2 else evT c eb env s2) (fun b s' => ∀ G' H', Stp T G H s G' H' s' → Q b H') (exW T W σ G H s)) t er ?_ fun b G1 H1 s1 t1 q2 => ?_
  · simp only [evT, Wp.bind]
    refine q.imp (fun x s1 z => ?_) fun _ _ z => z
    cases e : truD x.2 with
    | none => rw [e] at z; exact z.elim
    | some b =>
      rw [e] at z
      cases b with
      | false =>
        have z' : Wp (evE c eb env s1) (fun x s2 => Wp (lift ((truD x.2)) s2) (fun b s' => ∀ G' H', Stp T G H s G' H' s' → Q b H') (exW T W σ G H s)) (exW T W σ G H s) := z
        show Wp ((evE c eb env s1).bind fun x s2 => lift (truD x.2) s2) _ _
        rw [Wp.bind]; exact z'
      | true =>
        simp only [lift, Wp, if_true] at z ⊢
        rw [e] at z; exact z
  · cases b with
    | true => exact q2 G1 H1 t1
    | false =>
      simp only [Bool.false_eq_true, if_false] at q2 ⊢
      exact semT.one (t.trans t1) (er.step t1) (q2.imp (fun _ _ z => z) fun _ _ z => z.step t1) fun z G3 H3 s3 t3 q4 => q4 G3 H3 (t1.trans t3)
theorem s_not {a : Expr} {ea : E} {pos : Pos} (hK : X.K = T.K) (ha : PE X a (semE T c W ea)) : PE X (.UnaryOp .Not a pos) (semE T c W (.not_ ea)) := by
  refine PE.mono (pe_notT ha) fun σ H Q q => ?_
  obtain ⟨G0, Hf, s0, G, s, env, t, er, q⟩ := q
  simp only [evE, Wp.bind] at q
  refine semE.one t er q fun x u G1 H1 s1 t1 rx q1 => ?_
  obtain ⟨b, e, q2⟩ := q1.lift
  exact ⟨b, truV hK rx t1.s e, q2 _ G1 H1 t1 (RD.bl _)⟩
theorem t_not {a : Expr} {ea : E} {pos : Pos} (ha : PT X a (semT T c W ea)) : PT X (.UnaryOp .Not a pos) (semT T c W (.not_ ea)) := by
  refine PT.mono (pt_not ha) fun σ H Q q => ?_
  obtain ⟨G0, Hf, s0, G, s, env, t, er, q⟩ := q
  simp only [evT, evE, Wp.bind] at q
  refine semT.one (f := fun b s2 => ∀ G' H', Stp T G H s G' H' s2 → Q (!b) H') t er ?_ fun b G1 H1 s1 t1 q2 => q2 G1 H1 t1
  simp only [evT, Wp.bind]
  refine q.imp (fun x s1 z => ?_) fun _ _ z => z
  cases e : truD x.2 with
  | none => rw [e] at z; exact z.elim
  | some b => rw [e] at z; exact z
theorem s_ite {t a b : Expr} {et ea eb : E} {pos : Pos} (ht : PT X t (semT T c W et)) (ha : PE X a (semE T c W ea)) (hb : PE X b (semE T c W eb)) : PE X (.IfExp t a b pos) (semE T c W (.ite et ea eb)) := by
  refine PE.mono (pe_ifExp ht ha hb) fun σ H Q q => ?_
  obtain ⟨G0, Hf, s0, G, s, env, t, er, q⟩ := q
  simp only [evE, Wp.bind] at q
  refine semT.one (f := fun b s2 => Wp (if b = true then evE c ea env s2 else evE c eb env s2) (fun x s' => ∀ v G' H', Stp T G H s G' H' s' → RV T Hf H G' H' x v → Q v H') (exW T W σ G H s)) t er ?_ fun b G1 H1 s1 t1 q2 => ?_
  · simp only [evT, Wp.bind]
    refine q.imp (fun x s1 z => ?_) fun _ _ z => z
    cases e : truD x.2 with
    | none => rw [e] at z; exact z.elim
    | some b => rw [e] at z; exact z
  · cases b with
    | true =>
      simp only [if_true] at q2 ⊢
      exact semE.one (t.trans t1) (er.step t1) (q2.imp (fun _ _ z => z) fun _ _ z => z.step t1) fun z w G3 H3 s3 t3 rz q4 => q4 w G3 H3 (t1.trans t3) (rz.from t1.n)
    | false =>
      simp only [Bool.false_eq_true, if_false] at q2 ⊢
      exact semE.one (t.trans t1) (er.step t1) (q2.imp (fun _ _ z => z) fun _ _ z => z.step t1) fun z w G3 H3 s3 t3 rz q4 => q4 w G3 H3 (t1.trans t3) (rz.from t1.n)
/-! ### arguments, displays -/
theorem a_nil : PA X [] (semA T c W []) := by
  refine PA.mono pa_nil fun σ H Q q => ?_
  obtain ⟨G0, Hf, s0, G, s, env, t, er, q⟩ := q
  exact q [] G H t.same trivial
theorem a_cons {e : Expr} {es : List Expr} {ee : E} {ees : List E} (hn : noStar e = true) (ha : PE X e (semE T c W ee)) (hb : PA X es (semA T c W ees)) : PA X (e :: es) (semA T c W (ee :: ees)) := by
  refine PA.mono (pa_cons ha hb (star_cons hn es X.env)) fun σ H Q q => ?_
  obtain ⟨G0, Hf, s0, G, s, env, t, er, q⟩ := q
  simp only [evEs, Wp.bind] at q
  refine semE.one t er q fun x u G1 H1 s1 t1 rx q1 => ?_
  refine semA.one (t.trans t1) (er.step t1) (q1.imp (fun _ _ z => z) fun _ _ z => z.step t1) fun xs us G2 H2 s2 t2 rs q2 => ?_
  refine q2 (u :: us) G2 H2 (t1.trans t2) ⟨rx.step t2, H1, t1.n, fun a e1 e2 => ?_, rs⟩
  obtain ⟨kx, dx⟩ := x
  subst e1
  cases kx with
  | sh => exact absurd rfl e2
  | lo =>
    obtain ⟨a, xs, ds, z1, z2, z3, _⟩ := rx
    cases z1; rw [z3]; simp
  | fr =>
    obtain ⟨a, xs, ds, z1, z2, z3, _⟩ := rx
    cases z1; rw [z3]; simp
end
/-- a wider ground leaves the values -/
theorem RVs.ground {X : Ct} {Hf G H G' : Hp} (g : Sub G G') : ∀ {H0 : Hp} {xs : List VD} {vs : List V}, RVs X Hf H0 G H xs vs → (∀ b, G b = none → H0 b = none → G' b = none) → (∀ x ∈ xs, x.1 ≠ .lo) → RVs X Hf H0 G' H xs vs
  | _, [], [], _, _, _ => trivial
  | H0, x :: xs, v :: vs, ⟨h, H1, k, l, r⟩, m, n => by
    refine ⟨?_, H1, k, l, RVs.ground g r (fun b z1 z2 => m b z1 (k b z2)) fun y hy => n y (List.mem_cons_of_mem _ hy)⟩
    obtain ⟨kx, dx⟩ := x
    cases kx with
    | sh => exact RD.mono g h
    | lo => exact absurd rfl (n _ List.mem_cons_self)
    | fr =>
      obtain ⟨a, xs, ds, e1, e2, e3, e4, e5, e6, e7, e8⟩ := h
      exact ⟨a, xs, ds, e1, e2, e3, m a e4 (e8 rfl), e5, e6.mono g, e7, e8⟩
  | _, [], _ :: _, h, _, _ => h.elim
  | _, _ :: _, [], h, _, _ => h.elim
theorem keeps_lo : ∀ {xs : List VD} {ds : List D}, keeps xs = some ds → ∀ x ∈ xs, x.1 ≠ .lo
  | x :: xs, ds, e, y, hy => by
    have e2 : ((keep x).bind fun d => (Ev.keeps xs).map (d :: ·)) = some ds := e
    cases e3 : keep x with
    | none => rw [e3] at e2; cases e2
    | some d =>
      rw [e3] at e2
      obtain ⟨ds', e4, rfl⟩ := Option.map_eq_some_iff.mp e2
      rcases List.mem_cons.mp hy with rfl | hy
      · obtain ⟨kx, dx⟩ := y
        cases kx with
        | sh => exact fun z => Kd.noConfusion z
        | fr => exact fun z => Kd.noConfusion z
        | lo => cases e3
      · exact keeps_lo e4 y hy
/-- what may be kept comes into the ground, all of it -/
theorem RVs.keeps {X : Ct} {Hf G0 Hs : Hp} {s0 s : Sg} {H : Hp} : ∀ {H0 G : Hp} {xs : List VD} {vs : List V} {ds : List D}, RVs X Hf H0 G H xs vs → (∀ a, H0 a = none → Hs a = none) → Stp X G0 Hs s0 G H s → Ev.keeps xs = some ds →
    ∃ G', Stp X G0 Hs s0 G' H s ∧ Sub G G' ∧ RDs X.K X.ad G' vs ds ∧ (∀ b, G b = none → H0 b ≠ none → G' b = none)
  | H0, G, [], [], ds, _, _, t, e => by cases e; exact ⟨G, t, Sub.refl _, .nil, fun _ z _ => z⟩
  | H0, G, x :: xs, v :: vs, ds, ⟨rx, H1, k1, k2, r⟩, hs, t, e => by
    have e2 : ((keep x).bind fun d => (Ev.keeps xs).map (d :: ·)) = some ds := e
    cases e3 : keep x with
    | none => rw [e3] at e2; cases e2
    | some d =>
      rw [e3] at e2
      obtain ⟨ds', e4, rfl⟩ := Option.map_eq_some_iff.mp e2
      obtain ⟨G1, t1, g1, n1, r1, m1⟩ := (rx.from hs).keep t e3
      have r' : RVs X Hf H1 G1 H xs vs := r.ground g1 (fun b z1 z2 => m1 b z1 (by
        by_cases q : x.1 = .sh
        · exact .inl q
        · exact .inr fun z => k2 b z q z2)) (keeps_lo e4)
      obtain ⟨G2, t2, g2, r2, m2⟩ := RVs.keeps r' (fun a z => hs a (k1 a z)) t1 e4
      refine ⟨G2, t2, g1.trans g2, .cons (r1.mono g2) r2, fun b z1 z2 => m2 b ?_ fun z => z2 (k1 b z)⟩
      refine m1 b z1 ?_
      by_cases q : x.1 = .sh
      · exact .inl q
      · refine .inr fun z => ?_
        obtain ⟨kx, dx⟩ := x
        cases kx with
        | sh => exact q rfl
        | lo => cases e3
        | fr =>
          obtain ⟨a, xs, ds, e1, e2, e3, e4, e5, e6, e7, e8⟩ := rx
          cases e1; cases z
          exact z2 (e8 rfl)
  | _, _, [], _ :: _, _, h, _, _, _ => h.elim
  | _, _, _ :: _, [], _, h, _, _, _ => h.elim
section
variable {X : Cx} {T : Ct} {c : Cc} {tb : Tab} {N : List Str} {ow : Option Scope} {sc : Scope} {W : WX} {k : Nat}
theorem line1000 {n : Nat} (h : n ≤ 1000) : n ≤ sizeLine := Nat.le_of_lt (small1000 h)
theorem s_tup {es : List Expr} {ees : List E} {j : Nat} {pos : Pos} (ha : PA X es (semA T c W ees)) : PE X (.Tuple es j pos) (semE T c W (.tup ees)) := by
  refine PE.mono (pe_tup ha) fun σ H Q q => ?_
  obtain ⟨G0, Hf, s0, G, s, env, t, er, q⟩ := q
  simp only [evE, Wp.bind] at q
  refine semA.one t er q fun xs us G1 H1 s1 t1 rs q1 => ?_
  obtain ⟨ds, e, q2⟩ := q1.lift
  obtain ⟨G2, t2, g2, r2, m2⟩ := rs.keeps (fun _ z => z) t1 e
  split at q2
  · rename_i hl
    exact ⟨by rw [r2.length]; exact line1000 hl, fun p hp => newTup t2 r2 hp q2⟩
  · exact q2.elim
theorem s_lst {es : List Expr} {ees : List E} {pos : Pos} (ha : PA X es (semA T c W ees)) : PE X (.List es pos) (semE T c W (.lst ees)) := by
  refine PE.mono (pe_lst ha) fun σ H Q q => ?_
  obtain ⟨G0, Hf, s0, G, s, env, t, er, q⟩ := q
  simp only [evE, Wp.bind] at q
  refine semA.one t er q fun xs us G1 H1 s1 t1 rs q1 => ?_
  obtain ⟨ds, e, q2⟩ := q1.lift
  obtain ⟨G2, t2, g2, r2, m2⟩ := rs.keeps (fun _ z => z) t1 e
  split at q2
  · rename_i hl
    exact ⟨by rw [r2.length]; exact line1000 hl, fun p hp => newLst t2 t.n r2 hp q2⟩
  · exact q2.elim
/-! ### subscripts, slices -/
def noSlice : Expr → Bool
  | .Slice _ _ _ _ => false
  | _ => true
theorem noSlice_ok {b : Expr} (h : noSlice b = true) : PlainIx b := fun o i => by
  cases b <;> first | rfl | cases h
theorem RDs.atI {K : PySem.W.Frag} {ad : Option Addr} {G : Hp} {xs : List V} {ds : List D} {i : Int} {d : D} (r : RDs K ad G xs ds) (e : L2.atI ds i = some d) : ∃ v, L2.atI xs i = some v ∧ RD K ad G v d := by
  unfold L2.atI at *
  rw [r.length]
  cases h : ixN ds.length i with
  | none => rw [h] at e; cases e
  | some j =>
    rw [h] at e
    exact r.get (i := j) e
theorem strOk_one {z : Str} {i : Int} {ch : Nat} (h : PyData.canLay0 (.str z) = true) (e : L2.atI z.cps.toList i = some ch) : PyData.canLay0 (.str ⟨#[ch]⟩) = true := by
  obtain ⟨j, h1, h2, h3⟩ := atI_get e
  simp [PyData.canLay0, PyData.strOk] at h ⊢
  have hm : ch ∈ z.cps := by
    have := List.mem_of_getElem? h2
    simpa using this
  obtain ⟨n, hn, he⟩ := Array.mem_iff_getElem.mp hm
  have := h n hn
  rw [he] at this
  exact this
theorem s_ix {a b : Expr} {ea eb : E} {pos : Pos} (hK : X.K = T.K) (hs : noSlice b = true) (ha : PE X a (semE T c W ea)) (hb : PE X b (semE T c W eb)) : PE X (.Subscript a b pos) (semE T c W (.ix ea eb)) := by
  refine PE.mono (pe_ix ix_seq ha hb (noSlice_ok hs)) fun σ H Q q => ?_
  obtain ⟨G0, Hf, s0, G, s, env, t, er, q⟩ := q
  simp only [evE, Wp.bind] at q
  refine semE.two t er q fun x y u v G2 H2 s2 t2 rx ry q2 => ?_
  obtain ⟨kx, dx⟩ := x
  obtain ⟨ky, dy⟩ := y
  have go : ∀ q2 : Wp (lift ((ixD dx dy).map fun d => (Kd.sh, d)) s2) (fun x s' => ∀ v G' H', Stp T G H s G' H' s' → RV T Hf H G' H' x v → Q v H') (exW T W σ G H s), rIx X.K u v H2 Q := fun q2 => by
    obtain ⟨z, e, q3⟩ := q2.lift
    obtain ⟨d, e1, rfl⟩ := Option.map_eq_some_iff.mp e
    cases dx with
    | tup l => cases dy with
      | int i =>
        obtain ⟨a, xs, z1, h1, r1⟩ := rx.tup
        obtain ⟨w, h2, r2⟩ := r1.atI (i := i) e1
        exact .inr (.inl ⟨a, xs, i, w, z1, ry.int, by rw [hK]; exact t2.s.sqT h1, h2, q3 w G2 H2 t2 r2⟩)
      | _ => cases e1
    | lst l => cases dy with
      | int i =>
        obtain ⟨a, xs, z1, h1, r1⟩ := rx.list t2.s
        obtain ⟨w, h2, r2⟩ := r1.atI (i := i) e1
        exact .inl ⟨a, xs, i, w, z1, ry.int, .of h1, h2, q3 w G2 H2 t2 r2⟩
      | _ => cases e1
    | str z => cases dy with
      | int i =>
        have e2 : (if z.length ≤ sizeLine then (L2.atI z.cps.toList i).map fun c => D.str ⟨#[c]⟩ else none) = some d := e1
        split at e2
        · rename_i hl
          obtain ⟨ch, e3, rfl⟩ := Option.map_eq_some_iff.mp e2
          exact .inr (.inr ⟨z, i, ch, rx.str.1, ry.int, hl, e3, q3 _ G2 H2 t2 (RD.str _ (strOk_one rx.str.2 e3))⟩)
        · cases e2
      | _ => cases e1
    | _ => cases dy <;> cases e1
  cases dx with
  | drw => cases dy with
    | int i =>
      cases s2 with
      | none => exact go q2
      | some d =>
        have q3 : Wp (if i = 0 then Out.ok (Kd.sh, D.lst (d.c.map D.int)) (some d) else if i = 1 then Out.ok (Kd.sh, D.int d.p) (some d) else if i = 2 then Out.ok (Kd.sh, D.int d.r) (some d) else if i = 3 then Out.ok (Kd.sh, D.int d.s) (some d) else Out.stk) (fun x s' => ∀ v G' H', Stp T G H s G' H' s' → RV T Hf H G' H' x v → Q v H') (exW T W σ G H s) := q2
        have r1 : RD T.K T.ad G2 u .drw := rx.flat (fun _ h => nomatch h)
        cases r1 with
        | drw had =>
          rename_i a
          have rs := t2.r
          unfold Rs at rs
          rw [had] at rs
          obtain ⟨r1, r2, r3⟩ := rs
          refine .inl ⟨a, [.ref T.cd, .int d.p, .int d.r, .int d.s], i, ?_⟩
          split at q3
          · rename_i hi
            subst hi
            exact ⟨.ref T.cd, rfl, ry.int, .of r2, rfl, q3 _ G2 H2 t2 (RD.lst r3 (RDs.ofInts _))⟩
          · split at q3
            · rename_i hi
              subst hi
              exact ⟨_, rfl, ry.int, .of r2, rfl, q3 _ G2 H2 t2 (RD.int _)⟩
            · split at q3
              · rename_i hi
                subst hi
                exact ⟨_, rfl, ry.int, .of r2, rfl, q3 _ G2 H2 t2 (RD.int _)⟩
              · split at q3
                · rename_i hi
                  subst hi
                  exact ⟨_, rfl, ry.int, .of r2, rfl, q3 _ G2 H2 t2 (RD.int _)⟩
                · exact q3.elim
    | _ => exact go q2
  | _ => exact go q2
end
end Ev
set_option Elab.async false
set_option linter.all false
set_option maxRecDepth 100000
set_option maxHeartbeats 4000000
namespace Ev
open PySem PySem.Spec PyProof.Rows L2
/-! ### slices -/
section
variable {X : Cx} {T : Ct} {c : Cc} {tb : Tab} {N : List Str} {ow : Option Scope} {sc : Scope} {W : WX} {k : Nat}
/-- a part of a slice -/
def evO (c : Cc) (es : List E) (env : Env) (s : Sg) : Out (Option Int) := (evEs c es env s).bind fun l s2 => lift (oneI l) s2
def semO (X : Ct) (c : Cc) (W : WX) (es : List E) : TO := fun σ H Q => ∃ (G0 Hf : Hp) (s0 : Sg) (G : Hp) (s : Sg) (env : Env), Stp X G0 Hf s0 G H s ∧ ER X Hf G H env σ ∧
  Wp (evO c es env s) (fun o s' => ∀ G' H', Stp X G H s G' H' s' → Q o H') (exW X W σ G H s)
theorem semO.one {σ : L2.St} {H : Hp} {G0 Hf G : Hp} {s0 s : Sg} {env : Env} {a : List E} {f : Option Int → Sg → Prop} {R : Option Int → Hp → Prop} (t : Stp T G0 Hf s0 G H s) (r : ER T Hf G H env σ) (h : Wp (evO c a env s) f (exW T W σ G H s))
    (m : ∀ o G1 H1 s1, Stp T G H s G1 H1 s1 → f o s1 → R o H1) : semO T c W a σ H R :=
  ⟨G0, Hf, s0, G, s, env, t, r, h.imp (fun x s1 q G1 H1 t1 => m x G1 H1 s1 t1 q) fun _ _ q => q⟩
theorem o_none : PO X none (semO T c W []) := ⟨fun pins s σ H Q I q => po_none.run pins s σ H Q I (by
  obtain ⟨G0, Hf, s0, G, s, env, t, er, q⟩ := q
  exact q G H t.same)⟩
theorem o_some {e : Expr} {ee : E} (h : PE X e (semE T c W ee)) : PO X (some e) (semO T c W [ee]) := ⟨fun pins s σ H Q I q => (po_some h).run pins s σ H Q I (by
  obtain ⟨G0, Hf, s0, G, s, env, t, er, q⟩ := q
  simp only [evO, evEs, Wp.bind] at q
  refine semE.one t er q fun x u G1 H1 s1 t1 rx q1 => ?_
  have q2 : Wp (lift (oneI [x]) s1) (fun o s' => ∀ G' H', Stp T G H s G' H' s' → Q o H') (exW T W σ G H s) := q1
  obtain ⟨o, e1, q3⟩ := q2.lift
  obtain ⟨kx, dx⟩ := x
  cases dx with
  | int i => cases e1; exact ⟨i, rx.int, q3 G1 H1 t1⟩
  | _ => cases e1)⟩
theorem cutD_whole {l : List D} {lo hi : Option Int} (h : HT.sIx l.length 0 lo = 0 ∧ HT.sIx l.length l.length hi = l.length) : cutD l lo hi = l := by
  unfold cutD
  rw [h.1, h.2, List.drop_zero, Nat.sub_zero, List.take_length]
theorem RDs.cut {K : PySem.W.Frag} {ad : Option Addr} {G : Hp} {xs : List V} {ds : List D} (r : RDs K ad G xs ds) (lo hi : Option Int) : RDs K ad G (cutV xs lo hi) (cutD ds lo hi) := by
  unfold cutV cutD
  rw [r.length]
  exact (r.drop _).take _
theorem s_sl {a : Expr} {lo hi : Option Expr} {ea : E} {elo ehi : List E} {pos p2 : Pos} (hK : X.K = T.K) (ha : PE X a (semE T c W ea)) (hl : PO X lo (semO T c W elo)) (hh : PO X hi (semO T c W ehi)) :
    PE X (.Subscript a (.Slice lo hi none p2) pos) (semE T c W (.sl ea elo ehi)) := by
  refine PE.mono (pe_slice (sl_list.or sl_tupA) ha hl hh) fun σ H Q q => ?_
  obtain ⟨G0, Hf, s0, G, s, env, t, er, q⟩ := q
  simp only [evE] at q
  rw [Wp.bind] at q
  refine semE.one t er q fun x u G1 H1 s1 t1 rx q1 => ?_
  rw [Wp.bind] at q1
  refine semO.one (t.trans t1) (er.step t1) (show Wp (evO c elo env s1) _ _ from q1.imp (fun _ _ z => z) fun _ _ z => z.step t1) fun l G2 H2 s2 t2 q2 => ?_
  rw [Wp.bind] at q2
  refine semO.one ((t.trans t1).trans t2) ((er.step t1).step t2) (show Wp (evO c ehi env s2) _ _ from q2.imp (fun _ _ z => z) fun _ _ z => (z.step t1).step t2) fun h G3 H3 s3 t3 q3 => ?_
  obtain ⟨⟨kd, d⟩, e, q4⟩ := q3.lift
  have t4 := (t1.trans t2).trans t3
  have r4 := (rx.step t2).step t3
  obtain ⟨kx, dx⟩ := x
  cases dx with
  | lst m =>
    cases e
    obtain ⟨b, ys, z1, h1, r1⟩ := r4.list t3.s
    exact .inl ⟨b, ys, z1, .of h1, fun p hp => newLst t4 t.n (r1.cut l h) hp q4⟩
  | tup m =>
    cases e
    obtain ⟨b, ys, z1, h1, r1⟩ := r4.tup
    refine .inr ⟨b, ys, z1, by rw [hK]; exact t3.s.sqT h1, fun z => ?_, fun _ p hp => newTup t4 (r1.cut l h) hp q4⟩
    rw [r1.length] at z
    have e2 : cutD m l h = m := cutD_whole z
    rw [e2] at q4
    exact q4 _ G3 H3 t4 (RD.tup h1 r1)
  | _ => cases e
end
/-! ### t[::-1] -/
section
variable {prog : Program} {w : World} {A : Around} {E' : Value → Shared → Prop} {s : Shared}
theorem rev_adjust (n : Nat) : Builtin.Slice.sliceAdjust none none (-1) (n : Int) = ((n : Int) - 1, -1) := by
  unfold Builtin.Slice.sliceAdjust
  have h1 : ((-1 : Int) < 0) := by omega
  simp only [h1, if_true]
theorem rev_places (n : Nat) : Builtin.Slice.slicePlaces ((n : Int) - 1) (-1) (-1) = n := by
  unfold Builtin.Slice.slicePlaces
  have h1 : ¬ ((-1 : Int) > 0) := by omega
  simp only [h1, if_false, Int.neg_neg, Int.ediv_one]
  split <;> omega
theorem rev_applied {sl : Addr} {u : Tok} {n : Nat} {Q : Int × Int × Nat → Shared → Prop} (hs : s.heap.IsSliceOf sl .none .none (.int (-1) u)) (h : Q ((n : Int) - 1, -1, n) s) :
    wpAny (model prog w) A (Builtin.Slice.sliceApplied (.ref sl) (pure (n : Int))) Q E' s := by
  obtain ⟨os, hos, hcs, hds⟩ := id hs
  unfold Builtin.Slice.sliceApplied Builtin.Slice.sliceFields
  refine wpAny_bind (wpAny_bind (wpAny_field hos hds (x := .none) rfl (wpAny_bind (wpAny_field hos hds (x := .none) rfl (wpAny_bind (wpAny_field hos hds (x := .int (-1) u) rfl (wpAny_pure ?_)))))))
  refine wpAny_bind (slicePart_int ?_)
  show wpAny _ _ (if ((-1 : Int) == 0) = true then _ else _) _ _ s
  rw [if_neg (by decide)]
  refine wpAny_bind (slicePart_none (wpAny_bind (slicePart_none (wpAny_bind (wpAny_pure ?_)))))
  show wpAny _ _ (match Builtin.Slice.sliceAdjust none none (-1) (n : Int) with | (lo, hi) => pure (lo, (-1 : Int), Builtin.Slice.slicePlaces lo hi (-1))) _ _ s
  rw [rev_adjust n]
  show wpAny _ _ (pure (((n : Int) - 1), (-1 : Int), Builtin.Slice.slicePlaces ((n : Int) - 1) (-1) (-1))) _ _ s
  rw [rev_places]
  exact wpAny_pure h
theorem fm_congr {α β : Type} {f g : α → Option β} : ∀ {l : List α}, (∀ a ∈ l, f a = g a) → l.filterMap f = l.filterMap g
  | [], _ => rfl
  | a :: r, h => by
    rw [List.filterMap_cons, List.filterMap_cons, h a List.mem_cons_self, fm_congr fun b hb => h b (List.mem_cons_of_mem _ hb)]
theorem rev_pick (xs : Array Value) : ((List.range xs.size).filterMap fun (m : Nat) => xs[(((xs.size : Int) - 1) + (m : Int) * (-1)).toNat]?).toArray = xs.toList.reverse.toArray := by
  congr 1
  have e : ∀ m ∈ List.range xs.size, xs[(((xs.size : Int) - 1) + (m : Int) * (-1)).toNat]? = xs.toList.reverse[m]? := fun m hm => by
    have hm := List.mem_range.mp hm
    rw [List.getElem?_reverse (by simpa using hm)]
    have : (((xs.size : Int) - 1) + (m : Int) * (-1)).toNat = xs.toList.length - 1 - m := by
      rw [Array.length_toList]; omega
    rw [this]; simp
  rw [fm_congr e]
  have : ∀ (l : List Value), (List.range l.length).filterMap (fun m => l[m]?) = l := fun l => by
    induction l with
    | nil => rfl
    | cons a r ih =>
      rw [List.length_cons, List.range_succ_eq_map, List.filterMap_cons, List.filterMap_map]
      have e2 : ((fun m => (a :: r)[m]?) ∘ Nat.succ) = fun m => r[m]? := by
        funext m; simp
      rw [e2, ih]; rfl
  have h := this xs.toList.reverse
  simpa using h
theorem getItem_tuple_rev {t sl : Addr} {items : Array Value} {u : Tok} {Q : Value → Shared → Prop} (ht : IsTup s.heap t items) (hs : s.heap.IsSliceOf sl .none .none (.int (-1) u))
    (h : Q (.ref s.heap.objs.size) { s with heap := s.heap.push { cls := .type "tuple", data := .seq items.toList.reverse.toArray } }) (hz : items.size ≤ sizeLine) : wpAny (model prog w) A (getItem (.ref t) (.ref sl)) Q E' s := by
  have hfit : sizeOk (.seq items.toList.reverse.toArray) := by
    show items.toList.reverse.toArray.size ≤ sizeLine
    rw [List.size_toArray, List.length_reverse, Array.length_toList]; exact hz
  obtain ⟨os, hos, hcs, hds⟩ := id hs
  have hT : s.TypeIs (.ref sl) "slice" := ⟨os, hos, hcs⟩
  unfold getItem
  try with_reducible refine wpAny_holding ?_
  first | refine wpAny_bind (wpAny_pure ?_) | skip
  refine wpAny_bind (wpAny_sequenceKey ht.typeIs (by decide) ?_)
  refine wpAny_bind (wpAny_callSpecial?_slot (name := Str.ofString "__getitem__") ht.typeIs PyProof.Rows.slot_tuple_getitem (wpAny_call_entry PyProof.Rows.slot_tuple_getitem ht.typeIs entry_tuple_getitem ?_ (args_tuple_getitem _ _)))
  show wpAny _ _ (Builtin.Tuple.tupleItemsOf (.ref t) >>= _) _ _ s
  refine wpAny_bind (tupleItemsOf_ ht ?_)
  refine wpAny_bind (wpAny_typeOf hT ?_)
  rw [if_pos (by decide)]
  refine wpAny_bind (rev_applied hs ?_)
  have hno : ¬ (((items.size : Int) - 1 == 0 && (-1 : Int) == 1 && items.size == items.size) = true) := by
    intro q
    rw [Bool.and_eq_true, Bool.and_eq_true] at q
    exact absurd (eq_of_beq q.1.2) (by decide)
  show wpAny _ _ (if ((items.size : Int) - 1 == 0 && (-1 : Int) == 1 && items.size == items.size) = true then _ else _) _ _ s
  rw [if_neg hno, rev_pick]
  first
    | exact wpAny_bind (m := Builtin.Tuple.tupleExact _) (wpAny_newObj_type (wpAny_pure ⟨_, rfl, wpAny_pure h⟩) hfit)
    | exact wpAny_bind (m := Builtin.Tuple.tupleExact _) (wpAny_newObj_type (wpAny_bind (wpAny_pure (wpAny_pure ⟨_, rfl, wpAny_pure h⟩))) hfit)
    | exact wpAny_bind (wpAny_bind (m := Builtin.Tuple.tupleExact _) (wpAny_newObj_type (wpAny_pure (wpAny_pure ⟨_, rfl, wpAny_pure h⟩)) hfit))
    | exact wpAny_bind (wpAny_bind (m := Builtin.Tuple.tupleExact _) (wpAny_newObj_type (wpAny_pure ⟨_, rfl, wpAny_pure h⟩) hfit))
end
section
variable {X : Cx} {T : Ct} {c : Cc} {tb : Tab} {N : List Str} {ow : Option Scope} {sc : Scope} {W : WX} {k : Nat}
def tRevA (K : PySem.W.Frag) (te : TE) : TE := fun σ H Q => te σ H fun x H1 => ∃ a xs, x = .ref a ∧ ((SqL K H1 a xs ∧ ∀ p, H1 p = none → Q (.ref p) (upd H1 p (.lst xs.reverse))) ∨ (SqT K H1 a xs ∧ ∀ p, H1 p = none → Q (.ref p) (upd H1 p (.tup xs.reverse))))
theorem pe_revA {e : Expr} {te : TE} {j : Nat} {p1 p2 p3 pos : Pos} (he : PE X e te) : PE X (.Subscript e (.Slice none none (some (.UnaryOp .USub (.Constant (.int 1) j p1) p2)) p3) pos) (tRevA X.K te) := by
  refine ⟨fun pins s σ H Q I h => ?_⟩
  refine Subscript_ (thn (he.run pins s σ H _ I h) fun v s1 ⟨x, H1, I1, r1, a, xs, ex, q⟩ => ?_)
  subst ex
  cases r1
  have ho : PO X (some (.UnaryOp .USub (.Constant (.int 1) j p1) p2)) (tPart (tUn (rU fun i => .int (-i)) (tC (.int 1)))) := po_some (pe_un un_neg pe_int)
  refine wpAny_Slice (thn (po_none.run pins s1 σ H1 (fun o H2 => o = none ∧ H2 = H1) I1 ⟨rfl, rfl⟩) fun vl s2 ⟨l, H2, I2, pl, z1, z2⟩ => ?_)
  subst z1; subst z2
  refine thn (po_none.run pins s2 σ H2 (fun o H3 => o = none ∧ H3 = H2) I2 ⟨rfl, rfl⟩) fun vu s3 ⟨u, H3, I3, pu, z1, z2⟩ => ?_
  subst z1; subst z2
  refine thn (ho.run pins s3 σ H3 (fun o H4 => o = some (-1) ∧ H4 = H3) I3 ⟨1, rfl, -1, rfl, rfl, rfl⟩) fun vs s4 ⟨o, H4, I4, ps, z1, z2⟩ => ?_
  subst z1; subst z2
  cases pl; cases pu
  rcases ps with _ | ⟨_, tk⟩
  have I5 : Inv X pins σ H4 { s4 with heap := s4.heap.push { cls := .type "slice", data := .fields #[.none, .none, .int (-1) tk] } } := I4.kept (t' := s4.toks) fun b ob z => Heap.get?_push_of_some _ z
  show wpAny (model X.prog X.w) X.A (subscriptTail e (.Slice none none (some (.UnaryOp .USub (.Constant (.int 1) j p1) p2)) p3) (.ref a) (.ref s4.heap.objs.size)) (EP X pins σ Q) X.xe _
  rcases q with ⟨hx, q⟩ | ⟨hx, q⟩
  · obtain ⟨its, r, ht, hz⟩ := I5.list hx
    have hlen := r.length
    refine tail_any (ops := [.ref a, .ref s4.heap.objs.size]) ht.isList.typeIs (PySem.slot_list_getitem.lookup) ?_ (by with_unfolding_all rfl)
    refine wpAny_getItem_list_slice ht.isList (Heap.IsSliceOf.new _ _ _ _) .none .none (.int _ _) (by decide) ?_ (by rw [List.size_toArray]; omega)
    rw [PySem.W.krv_pick]
    refine ⟨.ref _, _, I5.laid (t' := s4.toks) (o := .lst xs.reverse) (fun b ob z => Heap.get?_push_of_some _ z) (Nat.le_refl _) ?_, rfl, q _ (I5.hok.fresh (Nat.le_refl _))⟩
    exact ⟨by rw [List.length_reverse]; exact hz, _, 0, r.reverse, Heap.get?_push_size _ rfl⟩
  · obtain ⟨its, r, ht, hz⟩ := I5.tuple hx
    have hlen := r.length
    refine tail_any (ops := [.ref a, .ref s4.heap.objs.size]) ht.typeIs (PyProof.Rows.slot_tuple_getitem.lookup) ?_ (by with_unfolding_all rfl)
    refine getItem_tuple_rev ht (Heap.IsSliceOf.new _ _ _ _) ?_ (by rw [List.size_toArray]; omega)
    refine ⟨.ref _, _, I5.laid (t' := s4.toks) (o := .tup xs.reverse) (fun b ob z => Heap.get?_push_of_some _ z) (Nat.le_refl _) ?_, rfl, q _ (I5.hok.fresh (Nat.le_refl _))⟩
    exact ⟨by rw [List.length_reverse]; exact hz, its.reverse, r.reverse, IsTup.new _ _⟩
theorem s_rev {a : Expr} {ea : E} {j : Nat} {p1 p2 p3 pos : Pos} (hK : X.K = T.K) (ha : PE X a (semE T c W ea)) : PE X (.Subscript a (.Slice none none (some (.UnaryOp .USub (.Constant (.int 1) j p1) p2)) p3) pos) (semE T c W (.rev ea)) := by
  refine PE.mono (pe_revA ha) fun σ H Q q => ?_
  obtain ⟨G0, Hf, s0, G, s, env, t, er, q⟩ := q
  simp only [evE, Wp.bind] at q
  refine semE.one t er q fun x u G1 H1 s1 t1 rx q1 => ?_
  obtain ⟨kx, dx⟩ := x
  cases dx with
  | lst m =>
    obtain ⟨b, ys, z1, h1, r1⟩ := rx.list t1.s
    exact ⟨b, ys, z1, .inl ⟨.of h1, fun p hp => newLst t1 t.n r1.reverse hp q1⟩⟩
  | tup m =>
    obtain ⟨b, ys, z1, h1, r1⟩ := rx.tup
    exact ⟨b, ys, z1, .inr ⟨by rw [hK]; exact t1.s.sqT h1, fun p hp => newTup t1 r1.reverse hp q1⟩⟩
  | _ => exact q1.elim
end
end Ev
set_option Elab.async false
set_option linter.all false
set_option maxRecDepth 100000
set_option maxHeartbeats 4000000
namespace Ev
open PySem PySem.Spec PyProof.Rows L2
/-! ### isinstance -/
def tyS : Ty → Str
  | .int => "int" | .bool => "bool" | .str => "str" | .tuple => "tuple" | .list => "list"
def tyN : Ty → String
  | .int => "int" | .bool => "bool" | .str => "str" | .tuple => "tuple" | .list => "list"
theorem ty_boot (t : Ty) : bootBuiltins (tyS t) = some (.type (tyN t)) := by cases t <;> decide +kernel
theorem ty_name (t : Ty) : nameB (tyS t) = true := by cases t <;> decide +kernel
/-- the name of a datum's type -/
def dTy : D → String
  | .non => "NoneType" | .bl _ => "bool" | .int _ => "int" | .str _ => "str" | .tup _ => "tuple" | .lst _ => "list" | .scr _ => "list" | .drw => "list"
theorem isi_kit {t : Ty} {d : D} {b : Bool} (h : isiD t d = some b) : kitB (dTy d) (tyN t) = some b := by
  have k : ∀ (x : String), x ∈ ["NoneType", "bool", "int", "str", "tuple", "list"] → ∀ t : Ty, kitB x (tyN t) = some (decide (x = tyN t) || (decide (x = "bool") && decide (tyN t = "int"))) := by
    intro x hx t
    simp only [List.mem_cons, List.mem_nil_iff, or_false] at hx
    rcases hx with rfl | rfl | rfl | rfl | rfl | rfl <;> cases t <;> decide +kernel
  cases d with
  | scr l => cases t <;> cases h
  | drw => cases t <;> cases h
  | non => rw [k _ (by simp [dTy])]; cases t <;> cases h <;> rfl
  | bl x => rw [k _ (by simp [dTy])]; cases t <;> cases h <;> rfl
  | int x => rw [k _ (by simp [dTy])]; cases t <;> cases h <;> rfl
  | str x => rw [k _ (by simp [dTy])]; cases t <;> cases h <;> rfl
  | tup x => rw [k _ (by simp [dTy])]; cases t <;> cases h <;> rfl
  | lst x => rw [k _ (by simp [dTy])]; cases t <;> cases h <;> rfl
theorem RD.ty {K : PySem.W.Frag} {ad : Option Addr} {H : Hp} {v : V} {d : D} (r : RD K ad H v d) (h1 : d ≠ .drw) (h2 : ∀ l, d ≠ .scr l) : TyX K H v (.type (dTy d)) := by
  cases r with
  | non => exact .base .non
  | bl b => exact .base (.bl b)
  | int b => exact .base (.int b)
  | str b => exact .base (.str b)
  | lst h r => exact .base (.lst h)
  | tup h r =>
    rcases h with (h | ⟨o, h⟩) | ⟨o, its, n, h, hc, _⟩
    · exact .base (.tup h)
    · exact .fTuple h
    · exact .kTuple h hc
  | scr h => exact absurd rfl (h2 _)
  | drw h => exact absurd rfl h1
section
variable {X : Cx} {T : Ct} {c : Cc} {tb : Tab} {N : List Str} {ow : Option Scope} {sc : Scope} {W : WX} {k : Nat}
theorem s_isi (gd : Gd X T c tb N ow sc W k) {t : Ty} {a : Expr} {x : Str} {ea : E} {p p2 pos : Pos} (hf : ("isinstance" : Str) ∈ tb.free) (hft : tyS t ∈ tb.free) (hx : x = tyS t) (hg : glB sc "isinstance" = true) (hgt : glB sc x = true) (hn : noStar a = true) (ha : PE X a (semE T c W ea)) :
    PE X (.Call (.Name "isinstance" p) [a, .Name x p2] [] pos) (semE T c W (.isi t ea)) := by
  subst hx
  obtain ⟨n1, n2, n3⟩ := nameB_ok (ty_name t)
  have hb : PE X (.Name (tyS t) p2) (tC (.ty (tyN t))) := pe_bltn (glB_ok gd.hsc hgt) (gd.tab.fr _ hft) (ty_boot t) (show RelV (.ty (tyN t)) (.type (tyN t)) from rfl) n3 n1
  refine PE.mono (pe_callB call_isi (glB_ok gd.hsc hg) (gd.tab.fr _ hf) (by decide +kernel) (pa_cons ha (pa_cons hb pa_nil) (star_cons hn _ _)) (he := star_cons hn _ _)) fun σ H Q q => ?_
  obtain ⟨G0, Hf, s0, G, s, env, t0, er, q⟩ := q
  simp only [evE, Wp.bind] at q
  refine semE.one t0 er q fun x u G1 H1 s1 t1 rx q1 => ?_
  obtain ⟨z, e, q2⟩ := q1.lift
  obtain ⟨b, e1, rfl⟩ := Option.map_eq_some_iff.mp e
  have r := rx.any t1.s
  have h1 : x.2 ≠ .drw := fun z => by rw [z] at e1; cases t <;> cases e1
  have h2 : ∀ l, x.2 ≠ .scr l := fun l z => by rw [z] at e1; cases t <;> cases e1
  refine ⟨u, .ty (tyN t), .type (dTy x.2), .type (tyN t), b, rfl, .ty _, by rw [gd.hK]; exact r.ty h1 h2, ?_, q2 _ G1 H1 t1 (RD.bl b)⟩
  rw [gd.hK]
  exact kit_ty (isi_kit e1)
end
/-! ### sums, the greatest, sorted: of tuples too -/
section
variable {X : Cx}
theorem Vals.ofTup {ns : List Int} {its : List Value} (r : Vals (ns.map V.int) its) : ∃ xs : Array (Int × Tok), its.toArray = intItems xs ∧ xs.toList.map (·.1) = ns := by
  have hi : IntsAre its ns := r.ints
  obtain ⟨xs, hx⟩ := hi.allInts.items
  refine ⟨xs, hx, ?_⟩
  have : numsOf its.toArray.toList = ns := by rw [show its.toArray.toList = its from rfl, hi.numsOf]
  rw [hx, nums_intItems] at this
  exact this
theorem cr_sumT (hc : X.calm = true) : CallR X (.builtin "sum") (fun vs H Q => ∃ (a : Addr) (ns : List Int), vs = [V.ref a] ∧ SqT X.K H a (ns.map V.int) ∧ Q (.int ns.sum) H) := by
  intro pins s σ H vs us Q I r h
  obtain ⟨a, ns, rfl, hs, q⟩ := h
  obtain ⟨its, rv, ht, hz⟩ := I.tuple hs
  rw [Vals.ref1 r]
  obtain ⟨xs, e, en⟩ := Vals.ofTup rv
  refine PySem.W.ktm_sumG (xs := xs) (I.ok.hd hc) (by rw [← e]; exact ht) fun h' tk t' hk => ?_
  refine ⟨.int ns.sum, H, I.kept (t' := tk) hk, ⟨t', ?_⟩, q⟩
  rw [preSum_eq, List.take_of_length_le (by simp), en]
end
theorem foldl_gt (n : Int) (ns : List Int) : ns.foldl (fun a b => if b > a then b else a) n = ns.foldl max n := by
  congr 1; funext a b; simp only [Int.max_def]; split <;> split <;> omega
theorem foldl_lt (n : Int) (ns : List Int) : ns.foldl (fun a b => if b < a then b else a) n = ns.foldl min n := by
  congr 1; funext a b; simp only [Int.min_def]; split <;> split <;> omega
theorem dp_ints {K : PySem.W.Frag} {H : Hp} : ∀ ns : List Int, DpAll K H (ns.map V.int) (ns.map PyData.int)
  | [] => .nil
  | n :: r => .cons (.int n) (dp_ints r)
theorem alike_ints (ns : List Int) : PySem.W.AlikeAll (ns.map PyData.int) := by
  refine ⟨fun x hx y hy => ?_, fun x hx => ?_⟩
  · obtain ⟨i, _, rfl⟩ := List.mem_map.mp hx
    obtain ⟨j, _, rfl⟩ := List.mem_map.mp hy
    rfl
  · obtain ⟨i, _, rfl⟩ := List.mem_map.mp hx
    exact fun z => nomatch z
theorem depth_ints : ∀ ns : List Int, PyData.depthAll (ns.map PyData.int) = 0
  | [] => rfl
  | n :: r => by
    show max (PyData.depth (.int n)) (PyData.depthAll (r.map PyData.int)) = 0
    rw [depth_ints r]; rfl
theorem reads_int {h : Heap} {v : Value} {i : Int} {bs : List Addr} (r : Reads h v (.int i) bs) : ∃ t, v = .int i t := by
  cases r with
  | int _ t => exact ⟨t, rfl⟩
section
variable {X : Cx}
def rMaxA (K : PySem.W.Frag) (f : Int → Int → Int) : List V → Hp → VK → Prop := fun vs H Q => ∃ (a : Addr) (n : Int) (ns : List Int), vs = [V.ref a] ∧ (SqL K H a ((n :: ns).map V.int) ∨ SqT K H a ((n :: ns).map V.int)) ∧ Q (.int (ns.foldl f n)) H
theorem cr_maxA (hc : X.calm = true) (hu : X.A.units + 64 < cLine) : CallR X (.builtin "max") (rMaxA X.K max) := by
  intro pins s σ H vs us Q I r h
  obtain ⟨a, n, ns, rfl, hs, q⟩ := h
  rw [Vals.ref1 r]
  have hd : X.A.units + 1 + PyData.depthAll ((n :: ns).map PyData.int) < cLine := by rw [depth_ints]; omega
  rcases hs with hs | hs
  · obtain ⟨its, rv, hl, hz⟩ := I.list hs
    obtain ⟨as, rd⟩ := Dp.readsAll I _ _ _ (dp_ints (n :: ns)) rv
    refine PySem.W.max_list_data (I.ok.hd hc) hl.isList rd (alike_ints (n :: ns)) hd fun i v h' tk bs hv hr hk => ?_
    rw [PySem.W.maxD_ints] at hr
    obtain ⟨t, rfl⟩ := reads_int hr
    exact ⟨.int _, H, I.kept (t' := tk) hk, ⟨t, rfl⟩, q⟩
  · obtain ⟨its, rv, hl, hz⟩ := I.tuple hs
    obtain ⟨as, rd⟩ := Dp.readsAll I _ _ _ (dp_ints (n :: ns)) rv
    refine PySem.W.max_tuple_data (I.ok.hd hc) hl rd (alike_ints (n :: ns)) hd fun i v h' tk bs hv hr hk => ?_
    rw [PySem.W.maxD_ints] at hr
    obtain ⟨t, rfl⟩ := reads_int hr
    exact ⟨.int _, H, I.kept (t' := tk) hk, ⟨t, rfl⟩, q⟩
theorem cr_minA (hc : X.calm = true) (hu : X.A.units + 64 < cLine) : CallR X (.builtin "min") (rMaxA X.K min) := by
  intro pins s σ H vs us Q I r h
  obtain ⟨a, n, ns, rfl, hs, q⟩ := h
  rw [Vals.ref1 r]
  have hd : X.A.units + 1 + PyData.depthAll ((n :: ns).map PyData.int) < cLine := by rw [depth_ints]; omega
  rcases hs with hs | hs
  · obtain ⟨its, rv, hl, hz⟩ := I.list hs
    obtain ⟨as, rd⟩ := Dp.readsAll I _ _ _ (dp_ints (n :: ns)) rv
    refine PySem.W.min_list_data (I.ok.hd hc) hl.isList rd (alike_ints (n :: ns)) hd fun i v h' tk bs hv hr hk => ?_
    rw [PySem.W.minD_ints] at hr
    obtain ⟨t, rfl⟩ := reads_int hr
    exact ⟨.int _, H, I.kept (t' := tk) hk, ⟨t, rfl⟩, q⟩
  · obtain ⟨its, rv, hl, hz⟩ := I.tuple hs
    obtain ⟨as, rd⟩ := Dp.readsAll I _ _ _ (dp_ints (n :: ns)) rv
    refine PySem.W.min_tuple_data (I.ok.hd hc) hl rd (alike_ints (n :: ns)) hd fun i v h' tk bs hv hr hk => ?_
    rw [PySem.W.minD_ints] at hr
    obtain ⟨t, rfl⟩ := reads_int hr
    exact ⟨.int _, H, I.kept (t' := tk) hk, ⟨t, rfl⟩, q⟩
end
/-! ### sorted, of lists and tuples of alike data -/
section
variable {prog : Program} {w : World} {A : Around} {E' : Value → Shared → Prop} {s : Shared} {β : Type} {vs : List Value} {bs : List β} {enc : β → PyData} {R : Value → β → Prop}
/-- the items of a tuple, collected -/
theorem collect_tup {l : Addr} {Q : List Value → Shared → Prop} (ht : s.heap.IsTuple l vs.toArray) (h : Q vs { s with heap := (s.heap.push (seqObj "list" #[] 0)).update s.heap.objs.size (Obj.mapSeq (· ++ vs.toArray)) }) (hz : vs.length ≤ sizeLine) :
    wpAny (model prog w) A (collect (.ref l)) Q E' s := by
  obtain ⟨o, ho, hc, n, hd⟩ := id ht
  unfold collect
  refine wpAny_bind (wpAny_runValue (codeAny_builtin F.entry_proto_collect ?_))
  rw [Around.under_plainId F.plain_proto_collect _]
  show wpAny _ A.in1 (newList [] >>= fun m => again (.builtin "list.__iadd__" ⟨[m, .ref l], []⟩)) _ _ s
  refine wpAny_bind (wpAny_newObj_type ?_)
  refine wpAny_pure ⟨plainId_quiet F.plain_list_iadd _, codeAny_builtin F.entry_list_iadd ?_⟩
  rw [Around.under_plainId F.plain_list_iadd _]
  show wpAny _ A.in1 (Builtin.List.listExtendWith (.ref s.heap.objs.size) (.ref l) (.ref s.heap.objs.size)) _ _ _
  have e1 : (s.heap.push { cls := .type "list", data := .seq ([] : List Value).toArray }).get? s.heap.objs.size = some { cls := .type "list", data := .seq #[] 0 } := Heap.get?_push_size _ rfl
  have e2 := Heap.get?_update_self (Obj.mapSeq (· ++ vs.toArray)) e1 rfl
  have fin' : wpAny (model prog w) A (match Value.ref s.heap.objs.size with
      | Value.ref a => (do
        match (← load a).data with
        | Data.seq ys _ => pure ys.toList
        | _ => unsupported "internal:collect")
      | _ => unsupported "internal:collect") Q E' { s with heap := (s.heap.push { cls := .type "list", data := .seq ([] : List Value).toArray }).update s.heap.objs.size (Obj.mapSeq (· ++ vs.toArray)) } := by
    show wpAny _ A (load s.heap.objs.size >>= _) _ _ _
    refine wpAny_bind (wpAny_load e2 ?_)
    refine wpAny_pure ?_
    show Q ((#[] : Array Value) ++ vs.toArray).toList _
    have e : ((#[] : Array Value) ++ vs.toArray).toList = vs := by simp
    rw [e]
    exact h
  refine wpAny_mono (wpAny_extend_seq (hsz := by rw [List.size_toArray]; exact hz) (A := A) (R := fun r s' => r = .ok (.ret (.ref s.heap.objs.size)) ∧ s' = { s with heap := (s.heap.push { cls := .type "list", data := .seq ([] : List Value).toArray }).update s.heap.objs.size (Obj.mapSeq (· ++ vs.toArray)) })
    (s := { s with heap := s.heap.push { cls := .type "list", data := .seq ([] : List Value).toArray } }) _ l _ 0 (.inr rfl) e1 (Heap.get?_push_of_some _ ho) hc hd ⟨rfl, rfl⟩) (fun fin s' z => ?_) (fun e s' z => ?_)
  · cases fin with
    | done f =>
      obtain ⟨e, rfl⟩ := z
      cases e
      exact fin'
    | again c' => exact ⟨z.1, codeAny_mono z.2 fun r s'' hr => by obtain ⟨rfl, rfl⟩ := hr; exact fin'⟩
  · exact absurd z.1 (by simp)
theorem sorted_tup {l : Addr} {Q : Value → Shared → Prop} (ht : s.heap.IsTuple l vs.toArray) (e : PySem.W.EachIs R vs bs) (er : PySem.W.EachIs (fun v b => ∃ as, Reads s.heap v (enc b) as) vs bs) (hal : PySem.W.AllAlike (bs.map enc)) (hk : PySem.W.Sortable (bs.map enc)) (hL : bs.length ≤ sizeLine) (hu : ∀ b, b ∈ bs → A.units + 2 + (enc b).depth < cLine)
    (h : ∀ out, out.length = bs.length → PySem.W.EachIs R out (bs.mergeSort (PySem.W.dataLe false enc)) → Q (.ref (s.heap.objs.size + 1)) { s with heap := sortedAll s.heap vs (List.toArray out) }) :
    wpAny (model prog w) A (call (.builtin "sorted") [.ref l]) Q E' s := by
  have hV : vs.length ≤ sizeLine := by rw [e.length]; exact hL
  have er' : PySem.W.EachIs (fun v b => ∃ as, Reads (PySem.W.sortingHeap (PySem.W.copyHeap s.heap vs) (s.heap.objs.size + 1) vs) v (enc b) as) vs bs := er.mono fun _ _ ⟨as, r⟩ => ⟨as, PyProof.Rows.Reads.keeps (fun _ _ => PySem.W.sorting_copy_old) r⟩
  refine Calls.call_function_entry kind_sorted plain_sorted entry_sorted (args_sorted1 _) ?_
  unfold Builtin.«sorted»
  refine wpAny_bind (m := checkCount "sorted" 1 1 _) (wpAny_pure ?_)
  refine wpAny_bind (collect_tup ht ?_ hV)
  refine wpAny_bind (wpAny_newList ?_ hV)
  have hs : ((s.heap.push (seqObj "list" #[] 0)).update s.heap.objs.size (Obj.mapSeq (· ++ vs.toArray))).objs.size = s.heap.objs.size + 1 := by rw [Heap.size_update, size_push']
  show wpAny _ _ _ _ _ { s with heap := PySem.W.copyHeap s.heap vs }
  rw [hs]
  refine wpAny_bind (wpAny_holding (wpAny_call_entry slot_list_sort ⟨_, PySem.W.copyHeap_at s.heap vs, rfl⟩ entry_list_sort ?body (args_list_sort _)))
  case body =>
    refine PySem.W.list_sort_vals (κ := PySem.W.dataKind (PySem.W.sortingHeap (PySem.W.copyHeap s.heap vs) (s.heap.objs.size + 1) vs) (bs.map enc)) (s := { s with heap := PySem.W.copyHeap s.heap vs }) (PySem.W.copyHeap_at s.heap vs)
      (PySem.W.SortsAt.data (s := { s with heap := PySem.W.sortingHeap (PySem.W.copyHeap s.heap vs) (s.heap.objs.size + 1) vs }) (PySem.W.each_map (R := fun v d => ∃ as, Reads (PySem.W.sortingHeap (PySem.W.copyHeap s.heap vs) (s.heap.objs.size + 1) vs) v d as) enc er') hal hk (PySem.W.bound_map hu)) hV ⟨.none, rfl, ?_⟩
    exact wpAny_pure ⟨_, rfl, h _ (by rw [PySem.W.sortVals_length false rfl]; exact e.length) (PySem.W.sortVals_data false e er' hal)⟩
end
section
variable {X : Cx} {T : Ct}
theorem each_of {X : Cx} {pins : List (Addr × Obj)} {σ : L2.St} {H : Hp} {s : Shared} {K : PySem.W.Frag} {ad : Option Addr} {G : Hp} (hK : X.K = K) (I : Inv X pins σ H s) (sb : Sub G H) : ∀ {xs : List V} {ds : List D} {us : List Value}, RDs K ad G xs ds → plainDs 50 ds = true → Vals xs us →
    PySem.W.EachIs (fun u d => ∃ x, RelV x u ∧ RD K ad G x d) us ds ∧ PySem.W.EachIs (fun v b => ∃ as, Reads s.heap v (toP b) as) us ds
  | _, _, _, .nil, _, .nil => ⟨.nil, .nil⟩
  | _, _, _, .cons h r, e, .cons q z => by
    have e' := ba2 (show (plainD 50 _ && plainDs 50 _) = true from by simpa [plainDs] using e)
    obtain ⟨i1, i2⟩ := each_of hK I sb r e'.2 z
    exact ⟨.cons ⟨_, q, h⟩ i1, .cons (Dp.reads I _ _ _ (by rw [hK]; exact (h.mono sb).dp e'.1) q) i2⟩
theorem each_back {K : PySem.W.Frag} {ad : Option Addr} {G : Hp} : ∀ {us : List Value} {ds : List D}, PySem.W.EachIs (fun u d => ∃ x, RelV x u ∧ RD K ad G x d) us ds → ∃ xs, Vals xs us ∧ RDs K ad G xs ds
  | _, _, .nil => ⟨[], .nil, .nil⟩
  | _, _, .cons ⟨x, h1, h2⟩ r => by
    obtain ⟨xs, h3, h4⟩ := each_back r
    exact ⟨x :: xs, .cons h1 h3, .cons h2 h4⟩
theorem toPs_map : ∀ l : List D, toPs l = l.map toP
  | [] => rfl
  | d :: r => by rw [toPs, toPs_map r]; rfl
theorem plainDs_mem : ∀ {n : Nat} {l : List D}, plainDs n l = true → ∀ d ∈ l, plainD n d = true
  | n, d :: r, e, x, hx => by
    have e' := ba2 (show (plainD n d && plainDs n r) = true from by simpa [plainDs] using e)
    rcases List.mem_cons.mp hx with rfl | hx
    · exact e'.1
    · exact plainDs_mem e'.2 x hx
theorem sortOk_ok {l : List D} (h : sortOk l = true) : plainDs 50 l = true ∧ PySem.W.AllAlike (l.map toP) ∧ PySem.W.Sortable (l.map toP) := by
  obtain ⟨h1, h2, h3⟩ := ba3 h
  rw [toPs_map] at h2 h3
  refine ⟨h1, fun d hd d' hd' => ?_, ?_⟩
  · have := List.all_eq_true.mp h2 d hd
    exact List.all_eq_true.mp this d' hd'
  · rw [Bool.or_eq_true] at h3
    rcases h3 with h3 | h3
    · refine .inl fun d hd => ?_
      have := List.all_eq_true.mp h3 d hd
      cases d <;> first | cases this | skip
      rename_i xs
      cases xs with
      | nil => cases this
      | cons x r => exact ⟨x, r, rfl⟩
    · refine .inr fun d hd => ?_
      have := List.all_eq_true.mp h3 d hd
      cases d with
      | none => cases this
      | tuple xs => cases this
      | _ => exact ⟨(fun z => nomatch z), (fun _ z => nomatch z)⟩
def rSortA (X : Cx) (T : Ct) : List V → Hp → VK → Prop := fun vs H Q => ∃ (a : Addr) (xs : List V) (ds r : List D) (G : Hp), vs = [V.ref a] ∧ (SqL X.K H a xs ∨ SqT X.K H a xs) ∧ Sub G H ∧ RDs T.K T.ad G xs ds ∧ sortL ds = some r ∧
  ∀ (ys : List V) (p : Addr), RDs T.K T.ad G ys r → H p = none → Q (.ref p) (upd H p (.lst ys))
theorem alike_int {ns : List Int} : PySem.W.AllAlike (ns.map PyData.int) := fun d hd d' hd' => by
  obtain ⟨i, _, rfl⟩ := List.mem_map.mp hd
  obtain ⟨j, _, rfl⟩ := List.mem_map.mp hd'
  rfl
theorem intsD_eq : ∀ {l : List D} {ns : List Int}, intsD l = some ns → l = ns.map D.int
  | [], ns, e => by cases e; rfl
  | .int i :: r, ns, e => by
    simp only [intsD, Option.map_eq_some_iff] at e
    obtain ⟨m, e1, rfl⟩ := e
    rw [intsD_eq e1]; rfl
  | .non :: r, ns, e => by cases e
  | .bl b :: r, ns, e => by cases e
  | .str b :: r, ns, e => by cases e
  | .tup b :: r, ns, e => by cases e
  | .lst b :: r, ns, e => by cases e
  | .scr b :: r, ns, e => by cases e
  | .drw :: r, ns, e => by cases e
theorem sort_ints (ns : List Int) : (ns.map D.int).mergeSort (PySem.W.dataLe false toP) = (sortI ns).map D.int := by
  unfold sortI
  refine (PySem.W.sort_maps D.int fun a _ b _ => ?_).symm
  have h := congrFun (congrFun (PySem.W.dataLe_int (β := Int) fun i => i) a) b
  exact h.symm
theorem plain_ints : ∀ (ns : List Int), plainDs 50 (ns.map D.int) = true
  | [] => rfl
  | n :: r => by show (plainD 50 (.int n) && plainDs 50 (r.map D.int)) = true; rw [plain_ints r]; rfl
/-- what sorted gives, in one way -/
theorem sortL_all {l r : List D} (h : sortL l = some r) : plainDs 50 l = true ∧ PySem.W.AllAlike (l.map toP) ∧ PySem.W.Sortable (l.map toP) ∧ l.length ≤ sizeLine ∧ l.mergeSort (PySem.W.dataLe false toP) = r := by
  unfold sortL at h
  split at h
  · rename_i ns e
    have el := intsD_eq e
    subst el
    split at h
    · rename_i hl
      cases h
      refine ⟨plain_ints ns, ?_, .inr fun d hd => ?_, by rw [List.length_map]; exact hl, sort_ints ns⟩
      · rw [List.map_map]; exact alike_int (ns := ns)
      · rw [List.map_map] at hd
        obtain ⟨i, _, rfl⟩ := List.mem_map.mp hd
        exact ⟨(fun z => nomatch z), (fun _ z => nomatch z)⟩
    · cases h
  · split at h
    · rename_i hl
      cases h
      obtain ⟨h1, h2⟩ := ba2 hl
      obtain ⟨h3, h4, h5⟩ := sortOk_ok h1
      exact ⟨h3, h4, h5, of_decide_eq_true h2, rfl⟩
    · cases h
theorem cr_sortA (hK : X.K = T.K) (hu : X.A.units + 64 < cLine) : CallR X (.builtin "sorted") (rSortA X T) := by
  intro pins s σ H vs us Q I r h
  obtain ⟨a, xs, ds, rr, G, rfl, hs, sb, rd, hr, q⟩ := h
  obtain ⟨h1, h2, h3, h4, h5⟩ := sortL_all hr
  rw [Vals.ref1 r]
  have dep : ∀ b, b ∈ ds → X.A.units + 2 + (toP b).depth < cLine := fun b hb => by
    have := depth_toP b (plainDs_mem h1 b hb)
    omega
  have fin : ∀ (its : List Value), Vals xs its → ∀ out : List Value, out.length = ds.length → PySem.W.EachIs (fun u d => ∃ x, RelV x u ∧ RD T.K T.ad G x d) out (ds.mergeSort (PySem.W.dataLe false toP)) → EP X pins σ Q (.ref (s.heap.objs.size + 1)) { s with heap := sortedAll s.heap its (List.toArray out) } := fun its rv out ho eo => by
    rw [h5] at eo
    obtain ⟨ys, v1, v2⟩ := each_back eo
    obtain ⟨ep, he⟩ := PyProof.Rows.sortedAll_at s.heap its out.toArray
    refine ⟨.ref _, upd H (s.heap.objs.size + 1) (.lst ys), I.laid (t' := s.toks) (fun _ _ => PyProof.Rows.sortedAll_old) (Nat.le_succ _) ⟨?_, out, ep, v1, he⟩, rfl, q ys _ v2 (I.hok.fresh (Nat.le_succ _))⟩
    rw [Vals.length v1, ho]; exact h4
  rcases hs with hs | hs
  · obtain ⟨its, rv, hl, hz⟩ := I.list hs
    obtain ⟨e1, e2⟩ := each_of hK I sb rd h1 rv
    exact PySem.W.sorted_data hl.isList e1 e2 h2 h3 h4 dep fun out ho eo => fin its rv out ho eo
  · obtain ⟨its, rv, hl, hz⟩ := I.tuple hs
    obtain ⟨e1, e2⟩ := each_of hK I sb rd h1 rv
    exact sorted_tup hl e1 e2 h2 h3 h4 dep fun out ho eo => fin its rv out ho eo
end
end Ev
set_option Elab.async false
set_option linter.all false
set_option maxRecDepth 100000
set_option maxHeartbeats 4000000
namespace Ev
open PySem PySem.Spec PyProof.Rows L2
/-! ### built-in functions -/
def bfS : Bf → Str
  | .len => "len" | .abs => "abs" | .int => "int" | .max => "max" | .min => "min" | .sum => "sum" | .sorted => "sorted" | .all => "all" | .any => "any" | .tuple => "tuple" | .list => "list"
def bfV : Bf → Value
  | .len => .builtin "len" | .abs => .builtin "abs" | .int => .type "int" | .max => .builtin "max" | .min => .builtin "min" | .sum => .builtin "sum" | .sorted => .builtin "sorted" | .all => .builtin "all" | .any => .builtin "any" | .tuple => .type "tuple" | .list => .type "list"
theorem bf_boot (f : Bf) : bootBuiltins (bfS f) = some (bfV f) := by cases f <;> decide +kernel
theorem bf_name (f : Bf) : nameB (bfS f) = true := by cases f <;> decide +kernel
theorem CallR.mono {X : Cx} {f : Value} {r r' : List V → Hp → VK → Prop} (h : CallR X f r) (m : ∀ xs H Q, r' xs H Q → r xs H Q) : CallR X f r' := fun pins s σ H xs us Q I rv q => h pins s σ H xs us Q I rv (m _ _ _ q)
theorem RVs.one {X : Ct} {Hf H0 G H : Hp} {x : VD} {us : List V} (r : RVs X Hf H0 G H [x] us) : ∃ u, us = [u] ∧ RV X Hf H0 G H x u := by
  cases us with
  | nil => exact r.elim
  | cons u r' =>
    obtain ⟨h, H1, _, _, z⟩ := r
    cases r' with
    | nil => exact ⟨u, rfl, h⟩
    | cons => exact z.elim
theorem RVs.two {X : Ct} {Hf H0 G H : Hp} {x y : VD} {us : List V} (r : RVs X Hf H0 G H [x, y] us) : ∃ u v, us = [u, v] ∧ RV X Hf H0 G H x u ∧ RV X Hf H0 G H y v := by
  cases us with
  | nil => exact r.elim
  | cons u r' =>
    obtain ⟨h, H1, k, _, z⟩ := r
    obtain ⟨v, rfl, h2⟩ := RVs.one z
    exact ⟨u, v, rfl, h, h2.from k⟩
def rBc (T : Ct) (f : Bf) : List V → Hp → VK → Prop := fun us H Q => ∃ (Hf H0 G G0 : Hp) (s0 s : Sg) (xs : List VD) (kd : Kd) (d : D), Stp T G0 H0 s0 G H s ∧ (∀ a, H0 a = none → Hf a = none) ∧ RVs T Hf H0 G H xs us ∧ bcD f (dat xs) = some (kd, d) ∧
  ∀ v G' H', Stp T G0 H0 s0 G' H' s → RV T Hf H0 G' H' (kd, d) v → Q v H'
section
variable {X : Cx} {T : Ct}
theorem max_of {ns : List Int} {i : Int} (h : maxI ns = some i) : ∃ n r, ns = n :: r ∧ i = r.foldl max n := by
  cases ns with
  | nil => cases h
  | cons n r => cases h; exact ⟨n, r, rfl, foldl_gt n r⟩
theorem min_of {ns : List Int} {i : Int} (h : minI ns = some i) : ∃ n r, ns = n :: r ∧ i = r.foldl min n := by
  cases ns with
  | nil => cases h
  | cons n r => cases h; exact ⟨n, r, rfl, foldl_lt n r⟩
theorem bc_rule (hK : X.K = T.K) (hc : X.calm = true) (hu : X.A.units + 64 < cLine) (f : Bf) : CallR X (bfV f) (rBc T f) := by
  cases f with
  | len =>
    refine CallR.mono call_len fun us H Q h => ?_
    obtain ⟨Hf, H0, G, G0, s0, s, xs, kd, d, t, hf, rs, e, q⟩ := h
    match xs, rs, e with
    | [(kx, .str z)], rs, e =>
      obtain ⟨u, rfl, r⟩ := rs.one
      have e2 : (if z.length ≤ sizeLine then some (Kd.sh, D.int z.length) else none) = some (kd, d) := e
      split at e2
      · rename_i hl
        cases e2
        have hv := r.str.1
        subst hv
        exact ⟨.str z, z.length, rfl, ⟨hl, rfl⟩, q _ G H t (RD.int _)⟩
      · cases e2
    | [(kx, .tup l)], rs, e =>
      obtain ⟨u, rfl, r⟩ := rs.one
      cases e
      obtain ⟨a, ys, rfl, h1, r1⟩ := r.tup
      rw [← r1.length] at q
      exact ⟨.ref a, ys.length, rfl, .inr ⟨ys, by rw [hK]; exact t.s.sqT h1, rfl⟩, q _ G H t (RD.int _)⟩
    | [(kx, .lst l)], rs, e =>
      obtain ⟨u, rfl, r⟩ := rs.one
      cases e
      obtain ⟨a, ys, rfl, h1, r1⟩ := r.list t.s
      rw [← r1.length] at q
      exact ⟨.ref a, ys.length, rfl, .inl ⟨ys, .of h1, rfl⟩, q _ G H t (RD.int _)⟩
  | abs =>
    refine CallR.mono call_abs fun us H Q h => ?_
    obtain ⟨Hf, H0, G, G0, s0, s, xs, kd, d, t, hf, rs, e, q⟩ := h
    match xs, rs, e with
    | [(kx, .int i)], rs, e =>
      obtain ⟨u, rfl, r⟩ := rs.one
      cases e
      rw [r.int]
      exact ⟨i, rfl, q _ G H t (RD.int _)⟩
  | int =>
    refine CallR.mono call_int1 fun us H Q h => ?_
    obtain ⟨Hf, H0, G, G0, s0, s, xs, kd, d, t, hf, rs, e, q⟩ := h
    match xs, rs, e with
    | [(kx, .int i)], rs, e =>
      obtain ⟨u, rfl, r⟩ := rs.one
      cases e
      rw [r.int]
      exact .inl ⟨i, rfl, q _ G H t (RD.int _)⟩
    | [(kx, .bl b)], rs, e =>
      obtain ⟨u, rfl, r⟩ := rs.one
      cases e
      rw [r.bl]
      exact .inr ⟨b, rfl, q _ G H t (RD.int _)⟩
  | max =>
    refine CallR.mono ((call_max2 hc).or (cr_maxA hc hu)) fun us H Q h => ?_
    obtain ⟨Hf, H0, G, G0, s0, s, xs, kd, d, t, hf, rs, e, q⟩ := h
    match xs, rs, e with
    | [(kx, .int i), (ky, .int j)], rs, e =>
      obtain ⟨u, v, rfl, r, r'⟩ := rs.two
      cases e
      rw [r.int, r'.int]
      exact .inl ⟨i, j, rfl, q _ G H t (RD.int _)⟩
    | [(kx, .lst l)], rs, e =>
      obtain ⟨u, rfl, r⟩ := rs.one
      have e2 : (((intsD l).bind maxI).map fun i => (Kd.sh, D.int i)) = some (kd, d) := e
      obtain ⟨i, e3, e4⟩ := Option.map_eq_some_iff.mp e2
      obtain ⟨ns, e5, e6⟩ := Option.bind_eq_some_iff.mp e3
      obtain ⟨n, rr, rfl, rfl⟩ := max_of e6
      cases e4
      obtain ⟨a, ys, rfl, h1, r1⟩ := r.list t.s
      rw [r1.ints e5] at h1
      exact .inr ⟨a, n, rr, rfl, .inl (.of h1), q _ G H t (RD.int _)⟩
    | [(kx, .tup l)], rs, e =>
      obtain ⟨u, rfl, r⟩ := rs.one
      have e2 : (((intsD l).bind maxI).map fun i => (Kd.sh, D.int i)) = some (kd, d) := e
      obtain ⟨i, e3, e4⟩ := Option.map_eq_some_iff.mp e2
      obtain ⟨ns, e5, e6⟩ := Option.bind_eq_some_iff.mp e3
      obtain ⟨n, rr, rfl, rfl⟩ := max_of e6
      cases e4
      obtain ⟨a, ys, rfl, h1, r1⟩ := r.tup
      rw [r1.ints e5] at h1
      exact .inr ⟨a, n, rr, rfl, .inr (by rw [hK]; exact t.s.sqT h1), q _ G H t (RD.int _)⟩
  | min =>
    refine CallR.mono ((call_min2 hc).or (cr_minA hc hu)) fun us H Q h => ?_
    obtain ⟨Hf, H0, G, G0, s0, s, xs, kd, d, t, hf, rs, e, q⟩ := h
    match xs, rs, e with
    | [(kx, .int i), (ky, .int j)], rs, e =>
      obtain ⟨u, v, rfl, r, r'⟩ := rs.two
      cases e
      rw [r.int, r'.int]
      exact .inl ⟨i, j, rfl, q _ G H t (RD.int _)⟩
    | [(kx, .lst l)], rs, e =>
      obtain ⟨u, rfl, r⟩ := rs.one
      have e2 : (((intsD l).bind minI).map fun i => (Kd.sh, D.int i)) = some (kd, d) := e
      obtain ⟨i, e3, e4⟩ := Option.map_eq_some_iff.mp e2
      obtain ⟨ns, e5, e6⟩ := Option.bind_eq_some_iff.mp e3
      obtain ⟨n, rr, rfl, rfl⟩ := min_of e6
      cases e4
      obtain ⟨a, ys, rfl, h1, r1⟩ := r.list t.s
      rw [r1.ints e5] at h1
      exact .inr ⟨a, n, rr, rfl, .inl (.of h1), q _ G H t (RD.int _)⟩
    | [(kx, .tup l)], rs, e =>
      obtain ⟨u, rfl, r⟩ := rs.one
      have e2 : (((intsD l).bind minI).map fun i => (Kd.sh, D.int i)) = some (kd, d) := e
      obtain ⟨i, e3, e4⟩ := Option.map_eq_some_iff.mp e2
      obtain ⟨ns, e5, e6⟩ := Option.bind_eq_some_iff.mp e3
      obtain ⟨n, rr, rfl, rfl⟩ := min_of e6
      cases e4
      obtain ⟨a, ys, rfl, h1, r1⟩ := r.tup
      rw [r1.ints e5] at h1
      exact .inr ⟨a, n, rr, rfl, .inr (by rw [hK]; exact t.s.sqT h1), q _ G H t (RD.int _)⟩
  | sum =>
    refine CallR.mono ((cr_sum hc).or (cr_sumT hc)) fun us H Q h => ?_
    obtain ⟨Hf, H0, G, G0, s0, s, xs, kd, d, t, hf, rs, e, q⟩ := h
    match xs, rs, e with
    | [(kx, .lst l)], rs, e =>
      obtain ⟨u, rfl, r⟩ := rs.one
      have e2 : ((intsD l).map fun ns => (Kd.sh, D.int ns.sum)) = some (kd, d) := e
      obtain ⟨ns, e5, e4⟩ := Option.map_eq_some_iff.mp e2
      cases e4
      obtain ⟨a, ys, rfl, h1, r1⟩ := r.list t.s
      rw [r1.ints e5] at h1
      exact .inl ⟨a, ns, rfl, .of h1, q _ G H t (RD.int _)⟩
    | [(kx, .tup l)], rs, e =>
      obtain ⟨u, rfl, r⟩ := rs.one
      have e2 : ((intsD l).map fun ns => (Kd.sh, D.int ns.sum)) = some (kd, d) := e
      obtain ⟨ns, e5, e4⟩ := Option.map_eq_some_iff.mp e2
      cases e4
      obtain ⟨a, ys, rfl, h1, r1⟩ := r.tup
      rw [r1.ints e5] at h1
      exact .inr ⟨a, ns, rfl, by rw [hK]; exact t.s.sqT h1, q _ G H t (RD.int _)⟩
  | sorted =>
    refine CallR.mono (cr_sortA hK hu) fun us H Q h => ?_
    obtain ⟨Hf, H0, G, G0, s0, s, xs, kd, d, t, hf, rs, e, q⟩ := h
    match xs, rs, e with
    | [(kx, .lst l)], rs, e =>
      obtain ⟨u, rfl, r⟩ := rs.one
      have e2 : ((sortL l).map fun r => (Kd.fr, D.lst r)) = some (kd, d) := e
      obtain ⟨ns, e5, e4⟩ := Option.map_eq_some_iff.mp e2
      cases e4
      obtain ⟨a, ys, rfl, h1, r1⟩ := r.list t.s
      exact ⟨a, ys, l, ns, G, rfl, .inl (.of h1), t.s, r1, e5, fun zs p rz hp => newLst t hf rz hp q⟩
    | [(kx, .tup l)], rs, e =>
      obtain ⟨u, rfl, r⟩ := rs.one
      have e2 : ((sortL l).map fun r => (Kd.fr, D.lst r)) = some (kd, d) := e
      obtain ⟨ns, e5, e4⟩ := Option.map_eq_some_iff.mp e2
      cases e4
      obtain ⟨a, ys, rfl, h1, r1⟩ := r.tup
      exact ⟨a, ys, l, ns, G, rfl, .inr (by rw [hK]; exact t.s.sqT h1), t.s, r1, e5, fun zs p rz hp => newLst t hf rz hp q⟩
  | all =>
    refine CallR.mono (cr_all hc) fun us H Q h => ?_
    obtain ⟨Hf, H0, G, G0, s0, s, xs, kd, d, t, hf, rs, e, q⟩ := h
    match xs, rs, e with
    | [(kx, .lst l)], rs, e =>
      obtain ⟨u, rfl, r⟩ := rs.one
      have e2 : ((blsD l).map fun bs => (Kd.sh, D.bl (bs.all id))) = some (kd, d) := e
      obtain ⟨ns, e5, e4⟩ := Option.map_eq_some_iff.mp e2
      cases e4
      obtain ⟨a, ys, rfl, h1, r1⟩ := r.list t.s
      rw [r1.bls e5] at h1
      exact ⟨a, ns, rfl, .of h1, q _ G H t (RD.bl _)⟩
  | any =>
    refine CallR.mono (cr_any hc) fun us H Q h => ?_
    obtain ⟨Hf, H0, G, G0, s0, s, xs, kd, d, t, hf, rs, e, q⟩ := h
    match xs, rs, e with
    | [(kx, .lst l)], rs, e =>
      obtain ⟨u, rfl, r⟩ := rs.one
      have e2 : ((blsD l).map fun bs => (Kd.sh, D.bl (bs.any id))) = some (kd, d) := e
      obtain ⟨ns, e5, e4⟩ := Option.map_eq_some_iff.mp e2
      cases e4
      obtain ⟨a, ys, rfl, h1, r1⟩ := r.list t.s
      rw [r1.bls e5] at h1
      exact ⟨a, ns, rfl, .of h1, q _ G H t (RD.bl _)⟩
  | tuple =>
    refine CallR.mono call_tuple_of fun us H Q h => ?_
    obtain ⟨Hf, H0, G, G0, s0, s, xs, kd, d, t, hf, rs, e, q⟩ := h
    match xs, rs, e with
    | [(kx, .lst l)], rs, e =>
      obtain ⟨u, rfl, r⟩ := rs.one
      cases e
      obtain ⟨a, ys, rfl, h1, r1⟩ := r.list t.s
      exact ⟨a, ys, rfl, .inl ⟨.of h1, fun p hp => newTup t r1 hp q⟩⟩
    | [(kx, .tup l)], rs, e =>
      obtain ⟨u, rfl, r⟩ := rs.one
      cases e
      obtain ⟨a, ys, rfl, h1, r1⟩ := r.tup
      exact ⟨a, ys, rfl, .inr ⟨by rw [hK]; exact t.s.sqT h1, q _ G H t (RD.tup h1 r1)⟩⟩
  | list =>
    refine CallR.mono call_list_of fun us H Q h => ?_
    obtain ⟨Hf, H0, G, G0, s0, s, xs, kd, d, t, hf, rs, e, q⟩ := h
    match xs, rs, e with
    | [(kx, .lst l)], rs, e =>
      obtain ⟨u, rfl, r⟩ := rs.one
      cases e
      obtain ⟨a, ys, rfl, h1, r1⟩ := r.list t.s
      exact ⟨a, ys, rfl, .inl (.of h1), fun p hp => newLst t hf r1 hp q⟩
    | [(kx, .tup l)], rs, e =>
      obtain ⟨u, rfl, r⟩ := rs.one
      cases e
      obtain ⟨a, ys, rfl, h1, r1⟩ := r.tup
      exact ⟨a, ys, rfl, .inr (by rw [hK]; exact t.s.sqT h1), fun p hp => newLst t hf r1 hp q⟩
variable {c : Cc} {tb : Tab} {N : List Str} {ow : Option Scope} {sc : Scope} {W : WX} {k : Nat}
theorem s_bc (gd : Gd X T c tb N ow sc W k) {f : Bf} {x : Str} {e : Expr} {es : List Expr} {ees : List E} {p pos : Pos} (hx : x = bfS f) (hf : bfS f ∈ tb.free) (hg : glB sc x = true) (hn : noStar e = true) (hs : es.all noStar = true) (ha : PA X (e :: es) (semA T c W ees)) :
    PE X (.Call (.Name x p) (e :: es) [] pos) (semE T c W (.bc f ees)) := by
  subst hx
  obtain ⟨n1, n2, n3⟩ := nameB_ok (bf_name f)
  have hr := bc_rule gd.hK gd.calm gd.u f
  have fin : ∀ σ H Q, semE T c W (.bc f ees) σ H Q → tCB (rBc T f) (semA T c W ees) σ H Q := fun σ H Q q => by
    obtain ⟨G0, Hf, s0, G, s, env, t, er, q⟩ := q
    simp only [evE, Wp.bind] at q
    refine semA.one t er q fun xs us G1 H1 s1 t1 rs q1 => ?_
    obtain ⟨⟨kd, d⟩, e1, q2⟩ := q1.lift
    exact ⟨Hf, H, G1, G, s, s1, xs, kd, d, t1, t.n, rs, e1, q2⟩
  have hb := bf_boot f
  cases f with
  | int => exact PE.mono (pe_callTy hr (glB_ok gd.hsc hg) (gd.tab.fr _ hf) hb ha (hn := n3) (hdb := n1) (he := star_cons hn _ _) (hpl := star_plain _ _ hs)) fin
  | tuple => exact PE.mono (pe_callTy hr (glB_ok gd.hsc hg) (gd.tab.fr _ hf) hb ha (hn := n3) (hdb := n1) (he := star_cons hn _ _) (hpl := star_plain _ _ hs)) fin
  | list => exact PE.mono (pe_callTy hr (glB_ok gd.hsc hg) (gd.tab.fr _ hf) hb ha (hn := n3) (hdb := n1) (he := star_cons hn _ _) (hpl := star_plain _ _ hs)) fin
  | _ => exact PE.mono (pe_callB hr (glB_ok gd.hsc hg) (gd.tab.fr _ hf) hb ha (hn := n3) (hdb := n1) (he := star_cons hn _ _) (hpl := star_plain _ _ hs)) fin
end
end Ev
set_option Elab.async false
set_option linter.all false
set_option maxRecDepth 100000
set_option maxHeartbeats 4000000
namespace Ev
open PySem PySem.Spec PyProof.Rows L2
/-! ### calls of defs -/
theorem RVs.ofRDs {X : Ct} {Hf H0 G H : Hp} : ∀ {vs : List V} {ds : List D}, RDs X.K X.ad G vs ds → RVs X Hf H0 G H (ds.map fun d => (Kd.sh, d)) vs
  | _, _, .nil => trivial
  | _, _, .cons h r => ⟨h, H0, (fun _ z => z), (fun _ _ z => absurd rfl z), RVs.ofRDs r⟩
theorem settle_keeps : ∀ {xs : List VD}, xs.any isLo = false → ∃ ds, keeps xs = some ds ∧ xs.map settle = ds.map fun d => (Kd.sh, d)
  | [], _ => ⟨[], rfl, rfl⟩
  | x :: xs, h => by
    rw [List.any_cons, Bool.or_eq_false_iff] at h
    obtain ⟨ds, e1, e2⟩ := settle_keeps h.2
    obtain ⟨kx, dx⟩ := x
    cases kx with
    | lo => exact absurd h.1 (fun z => Bool.noConfusion z)
    | sh => exact ⟨dx :: ds, by show ((some dx).bind fun d => (keeps xs).map (d :: ·)) = _; rw [e1]; rfl, by rw [List.map_cons, List.map_cons, e2]; rfl⟩
    | fr => exact ⟨dx :: ds, by show ((some dx).bind fun d => (keeps xs).map (d :: ·)) = _; rw [e1]; rfl, by rw [List.map_cons, List.map_cons, e2]; rfl⟩
theorem settle_same : ∀ {xs : List VD}, xs.any isFr = false → xs.map settle = xs ∧ ∀ x ∈ xs, x.1 ≠ .fr
  | [], _ => ⟨rfl, fun _ h => nomatch h⟩
  | x :: xs, h => by
    rw [List.any_cons, Bool.or_eq_false_iff] at h
    obtain ⟨e1, e2⟩ := settle_same h.2
    obtain ⟨kx, dx⟩ := x
    cases kx with
    | fr => exact absurd h.1 (fun z => Bool.noConfusion z)
    | sh =>
      refine ⟨by rw [List.map_cons, e1]; rfl, fun y hy => ?_⟩
      rcases List.mem_cons.mp hy with rfl | hy
      · exact (fun z => Kd.noConfusion z)
      · exact e2 y hy
    | lo =>
      refine ⟨by rw [List.map_cons, e1]; rfl, fun y hy => ?_⟩
      rcases List.mem_cons.mp hy with rfl | hy
      · exact (fun z => Kd.noConfusion z)
      · exact e2 y hy
/-- the arguments as a def takes them -/
theorem RVs.settled {X : Ct} {Hf G0 Hs G H : Hp} {s0 s : Sg} {xs : List VD} {vs : List V} (r : RVs X Hf Hs G H xs vs) (t : Stp X G0 Hs s0 G H s) (m : mixed xs = false) :
    ∃ G', Stp X G0 Hs s0 G' H s ∧ RVs X Hf Hs G' H (xs.map settle) vs ∧ ∀ x ∈ xs.map settle, x.1 ≠ .fr := by
  unfold mixed at m
  rw [Bool.and_eq_false_iff] at m
  rcases m with m | m
  · obtain ⟨ds, e1, e2⟩ := settle_keeps m
    obtain ⟨G', t', g', r', _⟩ := r.keeps (fun _ z => z) t e1
    refine ⟨G', t', by rw [e2]; exact RVs.ofRDs r', fun x hx => ?_⟩
    rw [e2] at hx
    obtain ⟨d, _, rfl⟩ := List.mem_map.mp hx
    exact (fun z => Kd.noConfusion z)
  · obtain ⟨e1, e2⟩ := settle_same m
    exact ⟨G, t, by rw [e1]; exact r, by rw [e1]; exact e2⟩
/-- a callee's value, at the caller -/
theorem RV.back {X : Ct} {Hf H0 H1 G H : Hp} {x : VD} {v : V} (r : RV X H1 H1 G H x v) (h0 : ∀ a, H1 a = none → H0 a = none) (hf : ∀ a, H1 a = none → Hf a = none) : RV X Hf H0 G H x v := by
  obtain ⟨k, d⟩ := x
  cases k with
  | sh => exact r
  | lo =>
    obtain ⟨a, xs, ds, e1, e2, e3, e4, e5, e6, e7, e8⟩ := r
    exact ⟨a, xs, ds, e1, e2, e3, e4, e5, e6, hf a e7, (fun z => Kd.noConfusion z)⟩
  | fr =>
    obtain ⟨a, xs, ds, e1, e2, e3, e4, e5, e6, e7, e8⟩ := r
    exact ⟨a, xs, ds, e1, e2, e3, e4, e5, e6, hf a e7, fun z => h0 a (e8 z)⟩
theorem pe_callS0 {X : Cx} {CX : CXT} {k : Nat} {f : Addr} {fd : FuncData} {ps : List Str} {sp : Sp} {E : L2.St → XK} {x : Str} {p pos : Pos} (F : FnOk X.prog X.w X.K X.mg X.base CX k f fd ps sp) (hr : Room k X.A) (hg : Gl X x) (hm : X.mg x = some (.ref f)) (hk : PySem.W.keepIn X.K (.ref f) = true)
    (hb : Binds X.K fd ps []) (hx : ∀ σ, PassesAt CX X σ (E σ)) (hdb : (x == ("__debug__" : Str)) = false) : PE X (.Call (.Name x p) [] [] pos) (tCallS sp E tNil) := by
  refine ⟨fun pins s σ H Q I h => wpAny_Call_Name_kw (ld_glob I hg hm ?_ hdb)⟩
  exact PySem.W.callWith_K0 I.kIn hk (run_fnS (us := []) F hr hb (hx σ) I .nil h)
section
variable {X : Cx} {T : Ct} {c : Cc} {tb : Tab} {N : List Str} {ow : Option Scope} {sc : Scope} {W : WX} {k : Nat}
theorem call_end {σ : L2.St} {H G0 Hf G : Hp} {s0 s : Sg} {Q : VK} {i np : Nat} {xs : List VD} {us : List V} {G1 H1 : Hp} {s1 : Sg} (t : Stp T G0 Hf s0 G H s) (t1 : Stp T G H s G1 H1 s1) (rs : RVs T Hf H G1 H1 xs us) (hl : us.length = np)
    (q : Wp (if mixed xs = true then .stk else c.call i (xs.map settle) s1) (fun x s' => ∀ v G' H', Stp T G H s G' H' s' → RV T Hf H G' H' x v → Q v H') (exW T W σ G H s)) : spF T (c.call i) np us H1 Q (WE W σ) := by
  split at q
  · exact q.elim
  · rename_i hm
    obtain ⟨G2, t2, r2, n2⟩ := rs.settled t1 (by simpa using hm)
    refine ⟨hl, Hf, H, G2, s1, xs.map settle, t2.same, r2, n2, q.imp (fun x s' z v G' H' u r => ?_) fun x s' z cls d G' H' u r => ?_⟩
    · exact z v G' H' (t2.trans u) (r.back t2.n fun a e => t.n a (t2.n a e))
    · exact z cls d G' H' (t2.trans u) r
/-- how many arguments a def takes -/
theorem evEs_length {c : Cc} : ∀ {es : List E} {env : Env} {s : Sg} {xs : List VD} {s' : Sg}, evEs c es env s = .ok xs s' → xs.length = es.length
  | [], _, _, _, _, e => by simp only [evEs, Out.ok.injEq] at e; rw [← e.1]; rfl
  | e1 :: es, env, s, xs, s', e => by
    simp only [evEs] at e
    cases h1 : evE c e1 env s with
    | stk => rw [h1] at e; cases e
    | ex x s => rw [h1] at e; cases e
    | ok x s1 =>
      rw [h1] at e
      simp only [Out.bind] at e
      cases h2 : evEs c es env s1 with
      | stk => rw [h2] at e; cases e
      | ex x s => rw [h2] at e; cases e
      | ok ys s2 =>
        rw [h2] at e
        simp only [Out.bind, Out.ok.injEq] at e
        rw [← e.1, List.length_cons, List.length_cons, evEs_length h2]
theorem Wp.and_eq {α : Type} {r : Out α} {Q : α → Sg → Prop} {E : Exn → Sg → Prop} (h : Wp r Q E) : Wp r (fun a s => Q a s ∧ r = .ok a s) E := by
  cases r with
  | ok a s => exact ⟨h, rfl⟩
  | ex x s => exact h
  | stk => exact h
theorem s_call (gd : Gd X T c tb N ow sc W k) {i np : Nat} {x : Str} {e : Expr} {es : List Expr} {ees : List E} {p pos : Pos} (hi : tb.fn[i]? = some (x, np)) (hl : ees.length = np) (hg : glB sc x = true) (hd : nameB x = true) (hn : noStar e = true) (hs : es.all noStar = true) (ha : PA X (e :: es) (semA T c W ees)) :
    PE X (.Call (.Name x p) (e :: es) [] pos) (semE T c W (.call i ees)) := by
  obtain ⟨n1, n2, n3⟩ := nameB_ok hd
  obtain ⟨f, fd, ps, h1, h2, h3, h4⟩ := gd.tab.fn i x np hi
  rw [← gd.hK] at h2 h3 h4
  refine PE.mono (pe_callS h4 gd.room (glB_ok gd.hsc hg) h1 h2 h3 (fun σ => passAt gd.takes σ) ha n1 (star_cons hn _ _) (star_plain _ _ hs)) fun σ H Q q => ?_
  obtain ⟨G0, Hf, s0, G, s, env, t, er, q⟩ := q
  simp only [evE, Wp.bind] at q
  refine semA.one t er q.and_eq fun xs us G1 H1 s1 t1 rs q1 => ?_
  exact call_end t t1 rs (by rw [rs.length, evEs_length q1.2, hl]) q1.1
theorem s_call0 (gd : Gd X T c tb N ow sc W k) {i : Nat} {x : Str} {p pos : Pos} (hi : tb.fn[i]? = some (x, 0)) (hg : glB sc x = true) (hd : nameB x = true) : PE X (.Call (.Name x p) [] [] pos) (semE T c W (.call i [])) := by
  obtain ⟨n1, n2, n3⟩ := nameB_ok hd
  obtain ⟨f, fd, ps, h1, h2, h3, h4⟩ := gd.tab.fn i x 0 hi
  rw [← gd.hK] at h2 h3 h4
  refine PE.mono (pe_callS0 h4 gd.room (glB_ok gd.hsc hg) h1 h2 h3 (fun σ => passAt gd.takes σ) n1) fun σ H Q q => ?_
  obtain ⟨G0, Hf, s0, G, s, env, t, er, q⟩ := q
  simp only [evE, evEs, Out.bind] at q
  exact call_end (us := []) (xs := []) (G1 := G) t t.same (show RVs T Hf H G H [] [] from trivial) rfl q
/-! ### list(range(..)) -/
theorem rds_rng {K : PySem.W.Frag} {ad : Option Addr} {G : Hp} (a b : Int) : RDs K ad G (rgV a b) (rngI a b) := by
  unfold rgV rngI
  generalize List.range (b - a).toNat = l
  induction l with
  | nil => exact .nil
  | cons i r ih => exact .cons (.int _) ih
theorem rgOk_ok {a b : Int} (h : rgOk a b = true) : -4000000000000000000 ≤ a ∧ a ≤ 4000000000000000000 ∧ -4000000000000000000 ≤ b ∧ b ≤ 4000000000000000000 := by
  simp only [rgOk, Bool.and_eq_true, decide_eq_true_eq] at h
  exact ⟨h.1.1.1, h.1.1.2, h.1.2, h.2⟩
theorem rg_ok {a b : Int} (h : rgOk a b = true) (l : b - a ≤ 1000000) : RgOk a b := by
  obtain ⟨h1, h2, h3, h4⟩ := rgOk_ok h
  exact ⟨by omega, by omega, by omega, by omega, by omega⟩
def rgEv (c : Cc) (tu : Bool) (es : List E) (env : Env) (s : Sg) : Out VD := (evEs c es env s).bind fun xs s1 => match dat xs with
    | [.int b] => if rgOk 0 b && decide (b ≤ 1000000) then .ok (if tu then (.sh, .tup (rngI 0 b)) else (.fr, .lst (rngI 0 b))) s1 else .stk
    | [.int a, .int b] => if rgOk a b && decide (b - a ≤ 1000000) then .ok (if tu then (.sh, .tup (rngI a b)) else (.fr, .lst (rngI a b))) s1 else .stk
    | _ => .stk
theorem s_rng1 (gd : Gd X T c tb N ow sc W k) {tu : Bool} {a : Expr} {x : Str} {ea : E} {p p2 p3 pos : Pos} (hx : x = if tu then "tuple" else "list") (hf : x ∈ tb.free) (hf2 : ("range" : Str) ∈ tb.free) (hg : glB sc x = true) (hg2 : glB sc "range" = true) (hn : noStar a = true) (ha : PE X a (semE T c W ea)) :
    PE X (.Call (.Name x p) [.Call (.Name "range" p2) [a] [] p3] [] pos) (semE T c W (.rng tu [ea])) := by
  have hr := prg_1 (p := p2) (pos := p3) (glB_ok gd.hsc hg2) (gd.tab.fr _ hf2) ha (star_cons hn _ _)
  have go : ∀ σ H Q, semE T c W (.rng tu [ea]) σ H Q → tRg1 (semE T c W ea) σ H fun lo hi H1 => RgOk lo hi ∧ ∀ q, H1 q = none → Q (.ref q) (upd H1 q (if tu then .tup (rgV lo hi) else .lst (rgV lo hi))) := fun σ H Q q => by
    obtain ⟨G0, Hf, s0, G, s, env, t, er, q⟩ := q
    simp only [evE, evEs, Wp.bind] at q
    refine semE.one t er q fun y u G1 H1 s1 t1 ry q1 => ?_
    obtain ⟨ky, dy⟩ := y
    cases dy with
    | int b =>
      have q2 : Wp (if (rgOk 0 b && decide (b ≤ 1000000)) = true then Out.ok (if tu = true then (Kd.sh, D.tup (rngI 0 b)) else (Kd.fr, D.lst (rngI 0 b))) s1 else .stk) (fun x s' => ∀ v G' H', Stp T G H s G' H' s' → RV T Hf H G' H' x v → Q v H') (exW T W σ G H s) := q1
      split at q2
      · rename_i hb
        obtain ⟨b1, b2⟩ := ba2 hb
        have b3 := of_decide_eq_true b2
        refine ⟨b, ry.int, rg_ok b1 (by omega), fun p hp => ?_⟩
        cases tu with
        | true => exact newTup t1 (rds_rng 0 b) hp q2
        | false => exact newLst t1 t.n (rds_rng 0 b) hp q2
      · exact q2.elim
    | _ => exact q1.elim
  cases tu with
  | true =>
    have e : x = "tuple" := hx
    subst e
    exact PE.mono (pe_tupRg gd.calm (glB_ok gd.hsc hg) (gd.tab.fr _ hf) hr) go
  | false =>
    have e : x = "list" := hx
    subst e
    exact PE.mono (pe_listRg gd.calm (glB_ok gd.hsc hg) (gd.tab.fr _ hf) hr) go
theorem s_rng2 (gd : Gd X T c tb N ow sc W k) {tu : Bool} {a b : Expr} {x : Str} {ea eb : E} {p p2 p3 pos : Pos} (hx : x = if tu then "tuple" else "list") (hf : x ∈ tb.free) (hf2 : ("range" : Str) ∈ tb.free) (hg : glB sc x = true) (hg2 : glB sc "range" = true) (hn : noStar a = true) (hn2 : noStar b = true)
    (ha : PE X a (semE T c W ea)) (hb : PE X b (semE T c W eb)) : PE X (.Call (.Name x p) [.Call (.Name "range" p2) [a, b] [] p3] [] pos) (semE T c W (.rng tu [ea, eb])) := by
  have hr := prg_2 (p := p2) (pos := p3) (glB_ok gd.hsc hg2) (gd.tab.fr _ hf2) ha hb (star_cons hn _ _) (star_cons hn2 _ _) (star_plain (es := [b]) _ _ (by simp [hn2]))
  have go : ∀ σ H Q, semE T c W (.rng tu [ea, eb]) σ H Q → tRg2 (semE T c W ea) (semE T c W eb) σ H fun lo hi H1 => RgOk lo hi ∧ ∀ q, H1 q = none → Q (.ref q) (upd H1 q (if tu then .tup (rgV lo hi) else .lst (rgV lo hi))) := fun σ H Q q => by
    obtain ⟨G0, Hf, s0, G, s, env, t, er, q⟩ := q
    simp only [evE, evEs, Wp.bind] at q
    refine semE.two t er q fun x y u v G2 H2 s2 t2 rx ry q1 => ?_
    obtain ⟨kx, dx⟩ := x
    obtain ⟨ky, dy⟩ := y
    cases dx with
    | int a => cases dy with
      | int b =>
        have q2 : Wp (if (rgOk a b && decide (b - a ≤ 1000000)) = true then Out.ok (if tu = true then (Kd.sh, D.tup (rngI a b)) else (Kd.fr, D.lst (rngI a b))) s2 else .stk) (fun x s' => ∀ v G' H', Stp T G H s G' H' s' → RV T Hf H G' H' x v → Q v H') (exW T W σ G H s) := q1
        split at q2
        · rename_i hb
          obtain ⟨b1, b2⟩ := ba2 hb
          have b3 := of_decide_eq_true b2
          refine ⟨a, b, rx.int, ry.int, rg_ok b1 b3, fun p hp => ?_⟩
          cases tu with
          | true => exact newTup t2 (rds_rng a b) hp q2
          | false => exact newLst t2 t.n (rds_rng a b) hp q2
        · exact q2.elim
      | _ => exact q1.elim
    | _ => cases dy <;> exact q1.elim
  cases tu with
  | true =>
    have e : x = "tuple" := hx
    subst e
    exact PE.mono (pe_tupRg gd.calm (glB_ok gd.hsc hg) (gd.tab.fr _ hf) hr) go
  | false =>
    have e : x = "list" := hx
    subst e
    exact PE.mono (pe_listRg gd.calm (glB_ok gd.hsc hg) (gd.tab.fr _ hf) hr) go
end
end Ev
set_option Elab.async false
set_option linter.all false
set_option maxRecDepth 100000
set_option maxHeartbeats 4000000
namespace Ev
open PySem PySem.Spec PyProof.Rows L2
/-! ### what is walked -/
section
variable {X : Ct} {G H G' H' G0 H0 : Hp} {s s' s0 : Sg}
theorem Stp.rdA (t : Stp X G H s G' H' s') {a : Addr} {u : HO} (na : X.ad ≠ some a) (h : Rd H a u) : Rd H' a u := by
  rcases h with h | ⟨o, h⟩
  · exact .inl (t.h _ _ h na)
  · exact .inr ⟨o, t.h _ _ h na⟩
theorem Stp.sqLA (t : Stp X G H s G' H' s') {a : Addr} {xs : List V} (na : X.ad ≠ some a) (h : SqL X.K H a xs) : SqL X.K H' a xs := by
  rcases h with h | h
  · exact .inl (t.rdA na h)
  · exact .inr h
theorem Stp.newL (t : Stp X G0 H0 s0 G H s) {p : Addr} {o : HO} (h : H p = none) : Stp X G H s (upd G p o) (upd H p o) s := t.same.newG h
end
/-- the item of a turn: it stands in the ground, or it is a new tuple of the ground's -/
def Yd (X : Ct) (Gs H : Hp) (x : V) (H' : Hp) (d : D) : Prop := (H' = H ∧ RD X.K X.ad Gs x d) ∨ ∃ (p : Addr) (xs : List V) (ds : List D), x = .ref p ∧ H p = none ∧ H' = upd H p (.tup xs) ∧ d = .tup ds ∧ RDs X.K X.ad Gs xs ds
theorem Yd.step {X : Ct} {Gs G H H' G0 H0 : Hp} {s s0 : Sg} {x : V} {d : D} (y : Yd X Gs H x H' d) (t : Stp X G0 H0 s0 G H s) (g : Sub Gs G) : ∃ G', Stp X G H s G' H' s ∧ RD X.K X.ad G' x d := by
  rcases y with ⟨rfl, r⟩ | ⟨p, xs, ds, rfl, hp, rfl, rfl, r⟩
  · exact ⟨G, t.same, r.mono g⟩
  · exact ⟨_, t.newL hp, .tup (.inl (.inl upd_same)) (r.mono (g.trans (t.newL hp).g))⟩
structure Wk (X : Ct) (J : It) (Gs : Hp) (src : Hp → Prop) (ds : List D) : Prop where
  go : ∀ (i : Nat) H, src H → i < ds.length → J.go i H
  stop : ∀ H, src H → J.stop ds.length H
  yld : ∀ (i : Nat) H x H' d, src H → ds[i]? = some d → J.yld i H x H' → Yd X Gs H x H' d
def semI (X : Ct) (c : Cc) (W : WX) (k : IK) (ies : List E) : TI := fun σ H R => ∃ (G0 Hf : Hp) (s0 : Sg) (G : Hp) (s : Sg) (env : Env), Stp X G0 Hf s0 G H s ∧ ER X Hf G H env σ ∧
  Wp (evEs c ies env s) (fun xs s1 => ∃ items, itV k xs = some items ∧ ∀ (J : It) (G' H' : Hp) (src : Hp → Prop), Stp X G H s G' H' s1 → (∀ G2 H2 s2, Stp X G' H' s1 G2 H2 s2 → src H2) → (xs.any isLo = false → ∀ H2, Sub G' H2 → src H2) → Wk X J G' src items → R J H') (exW X W σ G H s)
theorem PI.mono {X : Cx} {tg it : Expr} {t t' : TI} (h : PI X tg it t) (k : ∀ σ H Q, t' σ H Q → t σ H Q) : PI X tg it t' := ⟨fun pins s σ H R I q => h.run pins s σ H R I (k σ H R q)⟩
theorem PI.or {X : Cx} {tg it : Expr} {t t' : TI} (h : PI X tg it t) (h' : PI X tg it t') : PI X tg it (fun σ H Q => t σ H Q ∨ t' σ H Q) := ⟨fun pins s σ H R I q => q.elim (h.run pins s σ H R I) (h'.run pins s σ H R I)⟩
section
variable {K : PySem.W.Frag} {ad : Option Addr}
theorem RDs.get2 {G : Hp} {vs : List V} {ds : List D} (r : RDs K ad G vs ds) {i : Nat} {d : D} {x : V} (e : ds[i]? = some d) (k : vs[i]? = some x) : RD K ad G x d := by
  obtain ⟨v, h1, h2⟩ := r.get e
  rw [k] at h1; cases h1; exact h2
theorem RDs.at {G : Hp} {vs : List V} {ds : List D} (r : RDs K ad G vs ds) {i : Nat} (h : i < ds.length) : ∃ x, vs[i]? = some x := by
  have := r.length
  exact ⟨vs[i], by rw [List.getElem?_eq_getElem]⟩
end
/-- a list -/
theorem Wk.list {X : Ct} {G : Hp} {a : Addr} {xs : List V} {ds : List D} (r : RDs X.K X.ad G xs ds) : Wk X (Itl X.K a) G (fun H => SqL X.K H a xs) ds where
  go := fun i H h k => by
    obtain ⟨x, e⟩ := r.at k
    exact ⟨xs, x, h, e⟩
  stop := fun H h => ⟨xs, h, by rw [r.length]; exact Nat.le_refl _⟩
  yld := fun i H x H' d h e y => by
    obtain ⟨rfl, y⟩ := y
    exact .inl ⟨rfl, r.get2 e (y xs h)⟩
theorem Wk.tup {X : Ct} {G : Hp} {a : Addr} {xs : List V} {ds : List D} (r : RDs X.K X.ad G xs ds) : Wk X (Itt X.K a) G (fun H => SqT X.K H a xs) ds where
  go := fun i H h k => by
    obtain ⟨x, e⟩ := r.at k
    exact ⟨xs, x, h, e⟩
  stop := fun H h => ⟨xs, h, by rw [r.length]; exact Nat.le_refl _⟩
  yld := fun i H x H' d h e y => by
    obtain ⟨rfl, y⟩ := y
    exact .inl ⟨rfl, r.get2 e (y xs h)⟩
theorem rngI_get {a b : Int} {i : Nat} {d : D} (h : (rngI a b)[i]? = some d) : d = .int (a + (i : Nat)) := by
  unfold rngI at h
  rw [List.getElem?_map, Option.map_eq_some_iff] at h
  obtain ⟨j, h1, h2⟩ := h
  rw [List.getElem?_eq_some_iff] at h1
  obtain ⟨h3, h4⟩ := h1
  rw [List.getElem_range] at h4
  rw [← h2, h4]
theorem rngI_len (a b : Int) : (rngI a b).length = (b - a).toNat := by simp [rngI]
theorem Wk.range {X : Ct} {G : Hp} {lo hi : Int} : Wk X (Itr lo (hi - lo).toNat) G (fun _ => True) (rngI lo hi) where
  go := fun i H _ k => by rw [rngI_len] at k; exact k
  stop := fun H _ => by rw [rngI_len]; exact Nat.le_refl _
  yld := fun i H x H' d _ e y => by
    obtain ⟨rfl, rfl⟩ := y
    rw [rngI_get e]
    exact .inl ⟨rfl, .int _⟩
theorem Wk.enum {X : Ct} {G : Hp} {a : Addr} {xs : List V} {ds : List D} (r : RDs X.K X.ad G xs ds) : Wk X (Ite X.K a) G (fun H => SqL X.K H a xs) (ds.zipIdx.map fun p => .tup [.int p.2, p.1]) where
  go := fun i H h k => by
    rw [List.length_map, List.length_zipIdx] at k
    obtain ⟨x, e⟩ := r.at k
    exact ⟨xs, x, h, e⟩
  stop := fun H h => ⟨xs, h, by rw [List.length_map, List.length_zipIdx, r.length]; exact Nat.le_refl _⟩
  yld := fun i H x H' d h e y => by
    obtain ⟨p, v, rfl, hp, rfl, y⟩ := y
    rw [List.getElem?_map, Option.map_eq_some_iff] at e
    obtain ⟨q, e1, rfl⟩ := e
    rw [List.getElem?_zipIdx, Option.map_eq_some_iff] at e1
    obtain ⟨d0, e1, rfl⟩ := e1
    refine .inr ⟨p, _, _, rfl, hp, rfl, rfl, ?_⟩
    rw [Nat.zero_add]
    exact .cons (.int _) (.cons (r.get2 e1 (y xs h)) .nil)
theorem zip_at {α β : Type} {l : List α} {r : List β} {i : Nat} {p : α × β} (h : (l.zip r)[i]? = some p) : l[i]? = some p.1 ∧ r[i]? = some p.2 := by
  rw [List.getElem?_zip_eq_some] at h; exact h
theorem Wk.zipL {X : Ct} {G : Hp} {a b : Addr} {xs ys : List V} {ds es : List D} (r : RDs X.K X.ad G xs ds) (q : RDs X.K X.ad G ys es) : Wk X (Itz X.K a b) G (fun H => SqL X.K H a xs ∧ SqL X.K H b ys) ((ds.zip es).map fun p => .tup [p.1, p.2]) where
  go := fun i H h k => by
    rw [List.length_map, List.length_zip] at k
    obtain ⟨x, e⟩ := r.at (i := i) (by omega)
    obtain ⟨y, e'⟩ := q.at (i := i) (by omega)
    exact ⟨xs, ys, x, y, h.1, h.2, e, e'⟩
  stop := fun H h => ⟨xs, ys, h.1, h.2, by rw [List.length_map, List.length_zip, r.length, q.length]; omega⟩
  yld := fun i H x H' d h e y => by
    obtain ⟨p, v, w, rfl, hp, rfl, y1, y2⟩ := y
    rw [List.getElem?_map, Option.map_eq_some_iff] at e
    obtain ⟨u, e1, rfl⟩ := e
    obtain ⟨e2, e3⟩ := zip_at e1
    exact .inr ⟨p, _, _, rfl, hp, rfl, rfl, .cons (r.get2 e2 (y1 xs h.1)) (.cons (q.get2 e3 (y2 ys h.2)) .nil)⟩
theorem Wk.zipT {X : Ct} {G : Hp} {a b : Addr} {xs ys : List V} {ds es : List D} (r : RDs X.K X.ad G xs ds) (q : RDs X.K X.ad G ys es) : Wk X (RZ.ItzT X.K a b) G (fun H => SqT X.K H a xs ∧ SqT X.K H b ys) ((ds.zip es).map fun p => .tup [p.1, p.2]) where
  go := fun i H h k => by
    rw [List.length_map, List.length_zip] at k
    obtain ⟨x, e⟩ := r.at (i := i) (by omega)
    obtain ⟨y, e'⟩ := q.at (i := i) (by omega)
    exact ⟨xs, ys, x, y, h.1, h.2, e, e'⟩
  stop := fun H h => ⟨xs, ys, h.1, h.2, by rw [List.length_map, List.length_zip, r.length, q.length]; omega⟩
  yld := fun i H x H' d h e y => by
    obtain ⟨p, v, w, rfl, hp, rfl, y1, y2⟩ := y
    rw [List.getElem?_map, Option.map_eq_some_iff] at e
    obtain ⟨u, e1, rfl⟩ := e
    obtain ⟨e2, e3⟩ := zip_at e1
    exact .inr ⟨p, _, _, rfl, hp, rfl, rfl, .cons (r.get2 e2 (y1 xs h.1)) (.cons (q.get2 e3 (y2 ys h.2)) .nil)⟩
end Ev
set_option Elab.async false
set_option linter.all false
set_option maxRecDepth 100000
set_option maxHeartbeats 4000000
namespace Ev
open PySem PySem.Spec PyProof.Rows L2
theorem noLo : ∀ {xs : List VD}, xs.any isLo = false → ∃ ds, keeps xs = some ds ∧ ds = dat xs
  | [], _ => ⟨[], rfl, rfl⟩
  | x :: xs, h => by
    rw [List.any_cons, Bool.or_eq_false_iff] at h
    obtain ⟨ds, e1, e2⟩ := noLo h.2
    obtain ⟨kx, dx⟩ := x
    cases kx with
    | lo => exact absurd h.1 (fun z => Bool.noConfusion z)
    | sh => exact ⟨dx :: ds, by show ((some dx).bind fun d => (keeps xs).map (d :: ·)) = _; rw [e1]; rfl, by rw [e2]; rfl⟩
    | fr => exact ⟨dx :: ds, by show ((some dx).bind fun d => (keeps xs).map (d :: ·)) = _; rw [e1]; rfl, by rw [e2]; rfl⟩
/-- arguments of which none is lent: they stand in the ground -/
theorem RVs.stand {X : Ct} {Hf G0 Hs G H : Hp} {s0 s : Sg} {xs : List VD} {vs : List V} (r : RVs X Hf Hs G H xs vs) (t : Stp X G0 Hs s0 G H s) (m : xs.any isLo = false) : ∃ G', Stp X G0 Hs s0 G' H s ∧ RDs X.K X.ad G' vs (dat xs) := by
  obtain ⟨ds, e1, e2⟩ := noLo m
  obtain ⟨G', t', g', r', _⟩ := r.keeps (fun _ z => z) t e1
  exact ⟨G', t', e2 ▸ r'⟩
theorem itV_no {k : IK} {xs : List VD} {items : List D} (hk : isSeq k = false) (h : itV k xs = some items) : xs.any isLo = false ∧ itD k (dat xs) = some items := by
  unfold itV at h
  split at h
  · cases h
  · rename_i q
    refine ⟨?_, h⟩
    cases e : xs.any isLo with
    | false => rfl
    | true => rw [e, hk] at q; exact absurd rfl q
section
variable {X : Cx} {T : Ct} {c : Cc} {tb : Tab} {N : List Str} {ow : Option Scope} {sc : Scope} {W : WX} {k : Nat}
theorem i_seq (gd : Gd X T c tb N ow sc W k) {tg e : Expr} {ee : E} (he : PE X e (semE T c W ee)) : PI X tg e (semI T c W .seq [ee]) := by
  refine PI.mono (PI.or (pi_list he) (pi_tup he)) fun σ H R q => ?_
  obtain ⟨G0, Hf, s0, G, s, env, t, er, q⟩ := q
  rw [gd.hK]
  simp only [evEs, Wp.bind] at q
  cases h : evE c ee env s with
  | stk => rw [h] at q; exact q.elim
  | ex x s1 =>
    rw [h] at q
    exact .inl ⟨G0, Hf, s0, G, s, env, t, er, by rw [h]; exact q⟩
  | ok x s1 =>
    rw [h] at q
    obtain ⟨items, e1, q⟩ := q
    obtain ⟨kx, d⟩ := x
    have e2 : itD .seq [d] = some items := by
      unfold itV at e1
      rw [show (!(isSeq .seq)) = false from rfl, Bool.and_false] at e1
      exact e1
    cases d with
    | lst l =>
      cases e2
      refine .inl ⟨G0, Hf, s0, G, s, env, t, er, ?_⟩
      rw [h]
      intro v G1 H1 t1 rv
      by_cases hk : kx = .lo
      · subst hk
        obtain ⟨a, xs, ds, rfl, e2, e3, e4, e5, e6, e7, e8⟩ := rv
        cases e2
        exact ⟨a, rfl, ⟨xs, .inl (.inl e3)⟩, q _ G1 H1 _ t1 (fun G2 H2 s2 u => u.sqLA e5 (.inl (.inl e3))) (fun z => nomatch (show true = false from z)) (Wk.list e6)⟩
      · have kk : keep (kx, .lst items) = some (.lst items) := by cases kx <;> first | rfl | exact absurd rfl hk
        obtain ⟨G2, t2, g2, n2, r2, m2⟩ := rv.keep t1 kk
        cases r2 with
        | lst h2 r2 => exact ⟨_, rfl, ⟨_, .inl (.inl (t2.s _ _ h2))⟩, q _ G2 H1 _ t2 (fun G3 H3 s2 u => .inl (.inl (u.s _ _ (u.g _ _ h2)))) (fun _ H3 sb => .inl (.inl (sb _ _ h2))) (Wk.list r2)⟩
    | tup l =>
      cases e2
      refine .inr ⟨G0, Hf, s0, G, s, env, t, er, ?_⟩
      rw [h]
      intro v G1 H1 t1 rv
      have r2 := rv.flat (fun l z => D.noConfusion z)
      cases r2 with
      | tup h2 r2 => exact ⟨_, rfl, ⟨_, t1.s.sqT h2⟩, q _ G1 H1 _ t1 (fun G3 H3 s2 u => u.s.sqT (u.g.sqT h2)) (fun _ H3 sb => sb.sqT h2) (Wk.tup r2)⟩
    | scr l =>
      cases e2
      refine .inl ⟨G0, Hf, s0, G, s, env, t, er, ?_⟩
      rw [h]
      intro v G1 H1 t1 rv
      have r2 := rv.flat (fun l z => D.noConfusion z)
      cases r2 with
      | scr h2 => exact ⟨_, rfl, ⟨_, t1.s.sqL h2⟩, q _ G1 H1 _ t1 (fun G3 H3 s2 u => u.s.sqL (u.g.sqL h2)) (fun _ H3 sb => sb.sqL h2) (Wk.list (RDs.ofInts l))⟩
    | _ => cases e2
theorem i_rg1 (gd : Gd X T c tb N ow sc W k) {tg a : Expr} {ea : E} {p pos : Pos} (hf : ("range" : Str) ∈ tb.free) (hg : glB sc "range" = true) (hn : noStar a = true) (ha : PA X [a] (semA T c W [ea])) : PI X tg (.Call (.Name "range" p) [a] [] pos) (semI T c W .rg1 [ea]) := by
  refine PI.mono (pi_range1 (glB_ok gd.hsc hg) (gd.tab.fr _ hf) ha (star_cons hn _ _)) fun σ H R q => ?_
  obtain ⟨G0, Hf, s0, G, s, env, t, er, q⟩ := q
  refine semA.one t er q fun xs us G1 H1 s1 t1 rs q1 => ?_
  obtain ⟨items, e1, q1⟩ := q1
  obtain ⟨m, e2⟩ := itV_no rfl e1
  obtain ⟨G2, t2, r2⟩ := rs.stand t1 m
  cases hd : dat xs with
  | nil => rw [hd] at e2; cases e2
  | cons d ds =>
    cases ds with
    | cons d' ds => rw [hd] at e2; cases d <;> cases e2
    | nil =>
      rw [hd] at e2 r2
      cases d with
      | int b =>
        have e3 : (if rgOk 0 b = true then some (rngI 0 b) else none) = some items := e2
        split at e3
        · rename_i ok
          cases e3
          obtain ⟨_, _, b1, b2⟩ := rgOk_ok ok
          cases r2 with
          | cons r r' =>
            cases r'
            cases r
            refine ⟨b, rfl, by omega, by omega, q1 _ G2 H1 (fun _ => True) t2 (fun _ _ _ _ => trivial) (fun _ _ _ => trivial) ?_⟩
            have := Wk.range (X := T) (G := G2) (lo := 0) (hi := b)
            rwa [Int.sub_zero] at this
        · cases e3
      | _ => cases e2
theorem i_rg2 (gd : Gd X T c tb N ow sc W k) {tg a b : Expr} {ea eb : E} {p pos : Pos} (hf : ("range" : Str) ∈ tb.free) (hg : glB sc "range" = true) (hn : noStar a = true) (hn2 : noStar b = true) (ha : PA X [a, b] (semA T c W [ea, eb])) : PI X tg (.Call (.Name "range" p) [a, b] [] pos) (semI T c W .rg2 [ea, eb]) := by
  refine PI.mono (pi_range2 (glB_ok gd.hsc hg) (gd.tab.fr _ hf) ha (by rw [star_cons hn, star_cons hn2]; rfl) (star_cons hn2 _ _)) fun σ H R q => ?_
  obtain ⟨G0, Hf, s0, G, s, env, t, er, q⟩ := q
  refine semA.one t er q fun xs us G1 H1 s1 t1 rs q1 => ?_
  obtain ⟨items, e1, q1⟩ := q1
  obtain ⟨m, e2⟩ := itV_no rfl e1
  obtain ⟨G2, t2, r2⟩ := rs.stand t1 m
  generalize dat xs = w at e2 r2
  cases w with
  | nil => cases e2
  | cons d w => cases w with
    | nil => cases d <;> cases e2
    | cons d' w => cases w with
      | cons _ _ => cases d <;> cases d' <;> cases e2
      | nil =>
        cases r2 with
        | cons r r' =>
          cases r' with
          | cons r' r'' =>
            cases r''
            cases r with
            | int a => cases r' with
              | int b =>
                have e3 : (if rgOk a b = true then some (rngI a b) else none) = some items := e2
                split at e3
                · rename_i ok
                  cases e3
                  obtain ⟨a1, a2, b1, b2⟩ := rgOk_ok ok
                  exact ⟨a, b, rfl, ⟨by omega, by omega, by omega, by omega⟩, q1 _ G2 H1 (fun _ => True) t2 (fun _ _ _ _ => trivial) (fun _ _ _ => trivial) Wk.range⟩
                · cases e3
              | _ => cases e2
            | _ => cases e2
theorem rngD_get {a b : Int} {i : Nat} {d : D} (h : (rngD a b)[i]? = some d) : d = .int (a - (i : Nat)) := by
  unfold rngD at h
  rw [List.getElem?_map, Option.map_eq_some_iff] at h
  obtain ⟨j, h1, h2⟩ := h
  rw [List.getElem?_eq_some_iff] at h1
  obtain ⟨h3, h4⟩ := h1
  rw [List.getElem_range] at h4
  rw [← h2, h4]
theorem rngD_len (a b : Int) : (rngD a b).length = (a - b).toNat := by simp [rngD]
theorem Wk.rangeD {X : Ct} {G : Hp} {lo hi : Int} : Wk X (Itc lo (-1) (lo - hi).toNat) G (fun _ => True) (rngD lo hi) where
  go := fun i H _ k => by rw [rngD_len] at k; exact k
  stop := fun H _ => by rw [rngD_len]; exact Nat.le_refl _
  yld := fun i H x H' d _ e y => by
    obtain ⟨rfl, rfl⟩ := y
    rw [rngD_get e]
    have : lo + (i : Int) * (-1) = lo - (i : Int) := by omega
    rw [this]
    exact .inl ⟨rfl, .int _⟩
theorem i_rg3 (gd : Gd X T c tb N ow sc W k) {tg a b d : Expr} {ea eb ed : E} {p pos : Pos} (hf : ("range" : Str) ∈ tb.free) (hg : glB sc "range" = true) (hn : noStar a = true) (hn2 : noStar b = true) (hn3 : noStar d = true) (ha : PA X [a, b, d] (semA T c W [ea, eb, ed])) : PI X tg (.Call (.Name "range" p) [a, b, d] [] pos) (semI T c W .rg3 [ea, eb, ed]) := by
  refine PI.mono (pi_range3 (glB_ok gd.hsc hg) (gd.tab.fr _ hf) ha (star_cons hn _ _) (star_plain (es := [b, d]) _ _ (by simp [hn2, hn3]))) fun σ H R q => ?_
  obtain ⟨G0, Hf, s0, G, s, env, t, er, q⟩ := q
  refine semA.one t er q fun xs us G1 H1 s1 t1 rs q1 => ?_
  obtain ⟨items, e1, q1⟩ := q1
  obtain ⟨m, e2⟩ := itV_no rfl e1
  obtain ⟨G2, t2, r2⟩ := rs.stand t1 m
  generalize dat xs = w at e2 r2
  cases w with
  | nil => cases e2
  | cons d w => cases w with
    | nil => cases d <;> cases e2
    | cons d' w => cases w with
      | nil => cases d <;> cases d' <;> cases e2
      | cons d2 w => cases w with
        | cons _ _ => cases d <;> cases d' <;> cases d2 <;> cases e2
        | nil =>
          cases r2 with
          | cons r r' =>
            cases r' with
            | cons r' r'' =>
              cases r'' with
              | cons r2 r3 =>
                cases r3
                cases r with
                | int a => cases r' with
                  | int b => cases r2 with
                    | int d =>
                      have e3 : (if d = -1 then (if rgOk a b = true then some (rngD a b) else none) else none) = some items := e2
                      split at e3
                      · rename_i hd
                        split at e3
                        · rename_i ok
                          cases e3
                          subst hd
                          obtain ⟨a1, a2, b1, b2⟩ := rgOk_ok ok
                          exact ⟨a, b, -1, _, rfl, RgC.neg (by omega) (by omega) (by omega) (by omega), q1 _ G2 H1 (fun _ => True) t2 (fun _ _ _ _ => trivial) (fun _ _ _ => trivial) Wk.rangeD⟩
                        · cases e3
                      · cases e3
                    | _ => cases e2
                  | _ => cases e2
                | _ => cases e2
theorem i_zp (gd : Gd X T c tb N ow sc W k) {e e2 : Expr} {ee ee2 : E} {p pos tpos : Pos} {elts : List Expr} {kk : Nat} (hf : ("zip" : Str) ∈ tb.free) (hg : glB sc "zip" = true) (hn : noStar e = true) (hn2 : noStar e2 = true) (ha : PA X [e, e2] (semA T c W [ee, ee2])) :
    PI X (.Tuple elts kk tpos) (.Call (.Name "zip" p) [e, e2] [] pos) (semI T c W .zp [ee, ee2]) := by
  refine PI.mono (RZ.pi_zipA (glB_ok gd.hsc hg) (gd.tab.fr _ hf) ha (star_cons hn _ _) (star_plain (es := [e2]) _ _ (by simp [hn2]))) fun σ H R q => ?_
  obtain ⟨G0, Hf, s0, G, s, env, t, er, q⟩ := q
  rw [gd.hK]
  refine semA.one t er q fun xs us G1 H1 s1 t1 rs q1 => ?_
  obtain ⟨items, e1, q1⟩ := q1
  obtain ⟨m, e2⟩ := itV_no rfl e1
  obtain ⟨G2, t2, r2⟩ := rs.stand t1 m
  generalize dat xs = w at e2 r2
  cases w with
  | nil => cases e2
  | cons d w => cases w with
    | nil => cases d <;> cases e2
    | cons d' w => cases w with
      | cons _ _ => cases d <;> cases d' <;> cases e2
      | nil =>
        cases r2 with
        | cons r r' =>
          cases r' with
          | cons r' r'' =>
            cases r''
            cases r with
            | lst h2 r2 => cases r' with
              | lst h3 r3 =>
                cases e2
                exact ⟨_, _, _, _, rfl, .inl ⟨.inl (.inl (t2.s _ _ h2)), .inl (.inl (t2.s _ _ h3)), q1 _ G2 H1 _ t2 (fun G3 H3 s2 u => ⟨.inl (.inl (u.s _ _ (u.g _ _ h2))), .inl (.inl (u.s _ _ (u.g _ _ h3)))⟩) (fun _ H3 sb => ⟨.inl (.inl (sb _ _ h2)), .inl (.inl (sb _ _ h3))⟩) (Wk.zipL r2 r3)⟩⟩
              | _ => cases e2
            | tup h2 r2 => cases r' with
              | tup h3 r3 =>
                cases e2
                exact ⟨_, _, _, _, rfl, .inr ⟨t2.s.sqT h2, t2.s.sqT h3, q1 _ G2 H1 _ t2 (fun G3 H3 s2 u => ⟨u.s.sqT (u.g.sqT h2), u.s.sqT (u.g.sqT h3)⟩) (fun _ H3 sb => ⟨sb.sqT h2, sb.sqT h3⟩) (Wk.zipT r2 r3)⟩⟩
              | _ => cases e2
            | _ => cases e2
end
end Ev
set_option Elab.async false
set_option linter.all false
set_option maxRecDepth 100000
set_option maxHeartbeats 4000000
namespace Ev
open PySem PySem.Spec PyProof.Rows L2
/-! ### enumerate over tuples -/
theorem new_enum {src : Value} {ob : Obj} {Ho : Heap → Prop} (B : Begins src ob Ho) :
    Meets (Builtin.«enumerate.__new__» ⟨[.type "enumerate", src], []⟩) (fun _ R st => Ho st.heap ∧
      R (.ok (.ret (.ref (st.heap.push ob).objs.size))) { st with heap := (st.heap.push ob).push { cls := .type "enumerate", data := .fields #[.none, .bool false, .ref st.heap.objs.size, rawInt 0, .none, .none] } }) :=
  .of_wp fun pr wo Ar R st hyp => by
    obtain ⟨hp, ge, dr, tk, os⟩ := st
    obtain ⟨ho, hyp⟩ := hyp
    have hsub := sub_enumerate
    have begin_ : ∀ {A' : Around} {E : Value → Shared → Prop} {Q : Value → Shared → Prop}, Q (.ref hp.objs.size) ⟨hp.push ob, ge, dr, tk, os⟩ → wpAny (model pr wo) A' (pyIter src) Q E ⟨hp, ge, dr, tk, os⟩ :=
      fun q => B.iter pr wo _ _ ⟨hp, ge, dr, tk, os⟩ _ ho q
    wp_walk using begin_
    refine wpAny_stack_any fun sk => wpAny_pure ?_
    split
    · rename_i cl _ _ _ _ _
      cases (cl == Value.type "enumerate")
      · wp_walk using begin_
        exact ⟨_, rfl, hyp⟩
      · wp_walk using begin_
        exact ⟨_, rfl, hyp⟩
    · wp_walk using begin_
      exact ⟨_, rfl, hyp⟩
theorem call_enumT {pr : Program} {wo : World} {Ar : Around} {E : Value → Shared → Prop} {st : Shared} {src : Value} {ob : Obj} {Ho : Heap → Prop} {Q : Value → Shared → Prop} (B : Begins src ob Ho) (h1 : Ho st.heap)
    (h : ∀ h', IsEnum h' (st.heap.objs.size + 1) st.heap.objs.size 0 .none → h'.get? st.heap.objs.size = some ob → (∀ b o, st.heap.get? b = some o → h'.get? b = some o) → Q (.ref (st.heap.objs.size + 1)) { st with heap := h' }) :
    wpAny (model pr wo) Ar (call (.type "enumerate") [src]) Q E st := by
  refine callType_new F.called_enumerate (by decide) (F.typeCall_enumerate_1 _) (F.newCall_enumerate_1 _) (fun obj => F.args_object_init_2 obj _) F.entry_enumerate_new (new_enum B) ⟨h1, ?_⟩
  have hz : (st.heap.push ob).objs.size = st.heap.objs.size + 1 := Heap.size_push ..
  show _ ∧ _
  rw [hz]
  have he : IsEnum ((st.heap.push ob).push { cls := .type "enumerate", data := .fields #[.none, .bool false, .ref st.heap.objs.size, rawInt 0, .none, .none] }) (st.heap.objs.size + 1) st.heap.objs.size 0 .none := by
    have q := Heap.get?_push_size (st.heap.push ob) (o := { cls := .type "enumerate", data := .fields #[.none, .bool false, .ref st.heap.objs.size, rawInt 0, .none, .none] }) rfl
    rw [hz] at q; exact q
  exact ⟨⟨_, he, rfl⟩, h _ he (Heap.get?_push_of_some _ (Heap.get?_push_size _ B.free)) fun b o z => Heap.get?_push_of_some _ (Heap.get?_push_of_some _ z)⟩
/-- the tuple at a, each item in a new pair -/
def IteT (K : PySem.W.Frag) (a : Addr) : It :=
  ⟨fun i H => ∃ (xs : List V) (x : V), SqT K H a xs ∧ xs[i]? = some x, fun i H v H' => ∃ T x, v = .ref T ∧ H T = none ∧ H' = upd H T (.tup [.int (i : Nat), x]) ∧ ∀ xs, SqT K H a xs → xs[i]? = some x, fun i H => ∃ xs : List V, SqT K H a xs ∧ xs.length ≤ i⟩
theorem apartT {h : Heap} {e it a : Addr} {i : Int} {j : Nat} {old : Value} {its : Array Value} (he : IsEnum h e it i old) (hi : h.IsTupleIter it a j) (ha : h.IsTuple a its) : e ≠ it ∧ e ≠ a ∧ a ≠ it := by
  obtain ⟨o1, g1, c1, _⟩ := hi
  obtain ⟨o2, g2, c2, _⟩ := ha
  have he' : h.get? e = some { cls := .type "enumerate", dict := none, data := .fields #[.none, .bool false, .ref it, rawInt i, .none, old], slots := #[] } := he
  refine ⟨fun z => ?_, fun z => ?_, fun z => ?_⟩
  · rw [z, g1] at he'; cases he'; injection c1 with c1; exact absurd c1 (by decide)
  · rw [z, g2] at he'; cases he'; injection c2 with c2; exact absurd c2 (by decide)
  · rw [z, g1] at g2; cases g2; rw [c1] at c2; injection c2 with c2; exact absurd c2 (by decide)
/-- nothing is left to draw -/
theorem drawn_out {pr : Program} {wo : World} {Ar : Around} (hh : Ar.handled = none) {it a : Addr} {i : Nat} {items : Array Value} (hn : items[i]? = none) : Draws pr wo Ar it [it, a] i (fun _ _ => False) (fun j h => j = i ∧ h.IsTupleIter it a i ∧ h.IsTuple a items) where
  live := fun _ _ st => let ⟨_, ⟨o, ho, _⟩, _⟩ := st; ⟨o, ho⟩
  frame := fun _ _ _ st hk => ⟨st.1, st.2.1.at fun o e => hk it (by simp) o e, st.2.2.at fun o e => hk a (by simp) o e⟩
  item := fun j s Q E hj st _ => absurd st.1 (Nat.ne_of_lt hj)
  done := fun s Q E st hE => wpAny_nextOf_tuple_end hh st.2.1 st.2.2 hn hE
theorem turn_enumT {P : Program} {w : World} {K : PySem.W.Frag} {elts : List Expr} {kk : Nat} {tpos : Pos} (a e it : Addr) :
    Turn P w K (.Tuple elts kk tpos) (IteT K a) [e, it] e (fun i h => (∃ old, IsEnum h e it ((i : Nat) : Int) old) ∧ h.IsTupleIter it a i) where
  mem := by simp
  obj := fun i h st b hb => by
    obtain ⟨⟨old, he⟩, ⟨o, ho, hc, hd⟩⟩ := st
    have e' : b = e ∨ b = it := by simpa using hb
    rcases e' with z | z
    · rw [z]; exact ⟨_, he, fun v q => nomatch q⟩
    · rw [z]; exact ⟨o, ho, fun v q => by rw [hd] at q; cases q⟩
  keep := fun i h h' st k => let ⟨⟨old, he⟩, hi⟩ := st; ⟨⟨old, k e (by simp) _ he⟩, hi.at fun o q => k it (by simp) o q⟩
  item := by
    intro X hP hw hK hc i pins s σ H E I hf st hg
    subst hP hw hK
    obtain ⟨⟨old, he⟩, hit⟩ := st
    obtain ⟨xs, x, hq, hx⟩ := hg
    obtain ⟨its, rv, p, hz⟩ := I.tuple hq
    have p' : s.heap.IsTuple a its.toArray := p
    obtain ⟨n1, n2, n3⟩ := apartT he hit p'
    obtain ⟨u, hu, ru⟩ := rv.get hx
    have hel : e < s.heap.objs.size := Heap.lt_size he
    have hil : it < s.heap.objs.size := by obtain ⟨_, q, _⟩ := hit; exact Heap.lt_size q
    have hh : X.A.in1.handled = none := I.ok.hd hc
    refine wpAny_pyNext_enum_itemD (Draws.tuple hh it a n3 its.toArray) he ⟨hit, p'⟩ (by rw [List.size_toArray, ← rv.length]; exact (List.getElem?_eq_some_iff.mp hx).1) n1 (by simp [n1, n2]) fun u' h' tk hP' ho hst' hT hsz hk => ?_
    have eu : u' = u := by
      have q : its[i]? = some u' := by simpa using hP'
      rw [hu] at q; exact (Option.some.inj q).symm
    subst eu
    refine ⟨_, rfl, wpAny_letOwnedTupleGo_enum (s := { s with heap := h', toks := tk + 1 }) ho fun h'' he' sb => ?_⟩
    have hT2 : h''.get? s.heap.objs.size = some { cls := .type "tuple", data := .seq #[.int i tk, u'] } := (sb.2 _ (Nat.ne_of_gt hel)).trans hT
    have new : ObjOk X.prog X.w (upd H s.heap.objs.size (.tup [.int (i : Nat), x])) h'' s.heap.objs.size (.tup [.int (i : Nat), x]) :=
      ⟨by show 2 ≤ sizeLine; decide, [.int i tk, u'], .cons ⟨_, rfl⟩ (.cons ru .nil), ⟨_, hT2, rfl, _, rfl⟩⟩
    have I1 : Inv X pins σ (upd H s.heap.objs.size (.tup [.int (i : Nat), x])) { s with heap := h'', toks := tk + 1 } :=
      I.turnedNew (ch := [e, it]) (fun b ob hb q => (sb.2 b (fun z => hb (by simp [z]))).trans (hk b ob (fun z => hb (by simp [z])) (fun z => hb (by simp [z])) q)) hf (Nat.le_refl _) new
    refine ⟨.ref s.heap.objs.size, _, I1, rfl, ⟨_, x, rfl, I.hok.fresh (Nat.le_refl _), rfl, fun ys hy => by rw [I.tuple_inj hy hq]; exact hx⟩, ⟨⟨u', ?_⟩, hst'.1.at fun o q => (sb.2 it (Ne.symm n1)).trans q⟩, fun b hb => ?_⟩
    · have e1 : ((i + 1 : Nat) : Int) = (i : Int) + 1 := by omega
      rw [e1]; exact he'
    · have hb' : b < s.heap.objs.size := by
        have e' : b = e ∨ b = it := by simpa using hb
        rcases e' with z | z
        · rw [z]; exact hel
        · rw [z]; exact hil
      rw [upd_ne (Nat.ne_of_lt hb')]
      exact (hf b hb).1
  done := by
    intro X hP hw hK hc i pins s σ H E I hf st hg
    subst hP hw hK
    obtain ⟨⟨old, he⟩, hit⟩ := st
    obtain ⟨xs, hq, hx⟩ := hg
    obtain ⟨its, rv, p, hz⟩ := I.tuple hq
    have p' : s.heap.IsTuple a its.toArray := p
    obtain ⟨n1, n2, n3⟩ := apartT he hit p'
    obtain ⟨f0, f1, f2, f3, f4, f5⟩ := hf it (by simp)
    have hl := rv.length
    have hh : X.A.in1.handled = none := I.ok.hd hc
    exact wpAny_pyNext_enum_endD (drawn_out hh (items := its.toArray) (a := a) (it := it) (i := i) (by simp; omega)) he ⟨rfl, hit, p'⟩ fun h' eb => ⟨rfl, I.turned (t' := s.toks) (fun b o hb q => eb b o hb q) f0 f1 f3 f4 f5⟩
  self := fun A i s Q E st h => let ⟨⟨_, he⟩, _⟩ := st; wpAny_pyIter_enum he h
def iEnumT (K : PySem.W.Frag) (ta : TA) : TI := fun σ H R => ta σ H fun vs H1 => ∃ a xs, vs = [.ref a] ∧ SqT K H1 a xs ∧ R (IteT K a) H1
theorem pi_enumT {X : Cx} {e : Expr} {ta : TA} {p pos tpos : Pos} {elts : List Expr} {kk : Nat} (hg : Gl X "enumerate") (hm : X.mg "enumerate" = none) (ha : PA X [e] ta) (hs : starEach [e] X.env = [(false, eval e X.env)]) :
    PI X (.Tuple elts kk tpos) (.Call (.Name "enumerate" p) [e] [] pos) (iEnumT X.K ta) := by
  refine ⟨fun pins s σ H R I h => ?_⟩
  refine Call_ (ld_blt I hg hm boot_enumerate (PyProof.Rows.callWith_type1 (thn (ha.run pos pins s σ H _ I h) fun us s1 ⟨vs, H1, I1, r1, q1⟩ => ?_) hs rfl))
  obtain ⟨a, xs, rfl, hq, q⟩ := q1
  cases r1 with
  | cons r rr =>
    cases rr
    cases r
    obtain ⟨its, rv, p', hz⟩ := I1.tuple hq
    refine call_enumT (begins_tuple a its.toArray) p' fun h' he hit hk => wpAny_pyIter_enum he ?_
    have I2 : Inv X pins σ H1 { s1 with heap := h' } := I1.kept (t' := s1.toks) hk
    refine ⟨s1.heap.objs.size + 1, [s1.heap.objs.size + 1, s1.heap.objs.size], _, _, H1, rfl, I2, turn_enumT a (s1.heap.objs.size + 1) s1.heap.objs.size, ⟨⟨.none, he⟩, ⟨_, hit, rfl, rfl⟩⟩, fun b hb => ?_, q⟩
    have hle : s1.heap.objs.size ≤ b := by
      have e' : b = s1.heap.objs.size + 1 ∨ b = s1.heap.objs.size := by simpa using hb
      rcases e' with z | z
      · rw [z]; exact Nat.le_succ _
      · rw [z]; exact Nat.le_refl _
    exact I1.fpOk hle (I1.hok.fresh hle)
theorem Wk.enumT {X : Ct} {G : Hp} {a : Addr} {xs : List V} {ds : List D} (r : RDs X.K X.ad G xs ds) : Wk X (IteT X.K a) G (fun H => SqT X.K H a xs) (ds.zipIdx.map fun p => .tup [.int p.2, p.1]) where
  go := fun i H h k => by
    rw [List.length_map, List.length_zipIdx] at k
    obtain ⟨x, e⟩ := r.at k
    exact ⟨xs, x, h, e⟩
  stop := fun H h => ⟨xs, h, by rw [List.length_map, List.length_zipIdx, r.length]; exact Nat.le_refl _⟩
  yld := fun i H x H' d h e y => by
    obtain ⟨p, v, rfl, hp, rfl, y⟩ := y
    rw [List.getElem?_map, Option.map_eq_some_iff] at e
    obtain ⟨q, e1, rfl⟩ := e
    rw [List.getElem?_zipIdx, Option.map_eq_some_iff] at e1
    obtain ⟨d0, e1, rfl⟩ := e1
    refine .inr ⟨p, _, _, rfl, hp, rfl, rfl, ?_⟩
    rw [Nat.zero_add]
    exact .cons (.int _) (.cons (r.get2 e1 (y xs h)) .nil)
section
variable {X : Cx} {T : Ct} {c : Cc} {tb : Tab} {N : List Str} {ow : Option Scope} {sc : Scope} {W : WX} {k : Nat}
theorem i_en (gd : Gd X T c tb N ow sc W k) {e : Expr} {ee : E} {p pos tpos : Pos} {elts : List Expr} {kk : Nat} (hf : ("enumerate" : Str) ∈ tb.free) (hg : glB sc "enumerate" = true) (hn : noStar e = true) (ha : PA X [e] (semA T c W [ee])) :
    PI X (.Tuple elts kk tpos) (.Call (.Name "enumerate" p) [e] [] pos) (semI T c W .en [ee]) := by
  refine PI.mono (PI.or (pi_enum (glB_ok gd.hsc hg) (gd.tab.fr _ hf) ha (star_cons hn _ _)) (pi_enumT (glB_ok gd.hsc hg) (gd.tab.fr _ hf) ha (star_cons hn _ _))) fun σ H R q => ?_
  obtain ⟨G0, Hf, s0, G, s, env, t, er, q⟩ := q
  rw [gd.hK]
  cases h : evEs c [ee] env s with
  | stk => rw [h] at q; exact q.elim
  | ex x s1 =>
    rw [h] at q
    exact .inl ⟨G0, Hf, s0, G, s, env, t, er, by rw [h]; exact q⟩
  | ok xs s1 =>
    rw [h] at q
    obtain ⟨items, e1, q1⟩ := q
    obtain ⟨m, e2⟩ := itV_no rfl e1
    cases hw : dat xs with
    | nil => rw [hw] at e2; cases e2
    | cons d w =>
      cases w with
      | cons _ _ => rw [hw] at e2; cases d <;> cases e2
      | nil =>
        rw [hw] at e2
        cases d with
        | lst l =>
          cases e2
          refine .inl ⟨G0, Hf, s0, G, s, env, t, er, ?_⟩
          rw [h]
          intro us G1 H1 t1 rs
          obtain ⟨G2, t2, r2⟩ := rs.stand t1 m
          rw [hw] at r2
          cases r2 with
          | cons r r' =>
            cases r'
            cases r with
            | lst h2 r2 => exact ⟨_, _, rfl, .inl (.inl (t2.s _ _ h2)), q1 _ G2 H1 _ t2 (fun G3 H3 s2 u => .inl (.inl (u.s _ _ (u.g _ _ h2)))) (fun _ H3 sb => .inl (.inl (sb _ _ h2))) (Wk.enum r2)⟩
        | tup l =>
          cases e2
          refine .inr ⟨G0, Hf, s0, G, s, env, t, er, ?_⟩
          rw [h]
          intro us G1 H1 t1 rs
          obtain ⟨G2, t2, r2⟩ := rs.stand t1 m
          rw [hw] at r2
          cases r2 with
          | cons r r' =>
            cases r'
            cases r with
            | tup h2 r2 => exact ⟨_, _, rfl, t2.s.sqT h2, q1 _ G2 H1 _ t2 (fun G3 H3 s2 u => u.s.sqT (u.g.sqT h2)) (fun _ H3 sb => sb.sqT h2) (Wk.enumT r2)⟩
        | _ => cases e2
end
end Ev
set_option Elab.async false
set_option linter.all false
set_option maxRecDepth 100000
set_option maxHeartbeats 4000000
namespace Ev
open PySem PySem.Spec PyProof.Rows L2
/-! ### names and slots -/
theorem ER.put {X : Ct} {Hf G H : Hp} {env : Env} {σ : L2.St} (er : ER X Hf G H env σ) {v : V} {d : D} (r : RD X.K X.ad G v d) (i : Nat) : ER X Hf G H (env.set i (some (false, d))) (σ.set i (some v)) where
  len := by rw [List.length_set, List.length_set, er.len]
  sh := fun j e h => by
    by_cases hj : i = j
    · subst hj
      rw [List.getElem?_set_self'] at h ⊢
      cases q : env[i]? with
      | none => rw [q] at h; cases h
      | some u =>
        rw [q] at h
        have l : i < σ.length := by rw [er.len]; exact (List.getElem?_eq_some_iff.mp q).1
        rw [List.getElem?_eq_getElem l]
        cases h
        exact ⟨v, rfl, r⟩
    · rw [List.getElem?_set_ne hj] at h ⊢
      exact er.sh j e h
  ow := fun j e h => by
    by_cases hj : i = j
    · subst hj
      rw [List.getElem?_set_self'] at h
      cases q : env[i]? with
      | none => rw [q] at h; cases h
      | some u => rw [q] at h; cases h
    · rw [List.getElem?_set_ne hj] at h ⊢
      exact er.ow j e h
  ne := fun j l d e a h1 h2 h3 h4 => by
    have aux : ∀ {m : Nat} {z : D}, (env.set i (some (false, d)))[m]? = some (some (true, z)) → i ≠ m := fun {m z} h z => by
      subst z
      rw [List.getElem?_set_self'] at h
      cases q : env[i]? with
      | none => rw [q] at h; cases h
      | some u => rw [q] at h; cases h
    have aux2 : ∀ {m : Nat} {y z : D}, (env.set i (some (false, y)))[m]? = some (some (true, z)) → i ≠ m := fun {m y z} h z => by
      subst z
      rw [List.getElem?_set_self'] at h
      cases q : env[i]? with
      | none => rw [q] at h; cases h
      | some u => rw [q] at h; cases h
    have nj := aux2 h1
    have nl := aux2 h2
    rw [List.getElem?_set_ne nj] at h1 h3
    rw [List.getElem?_set_ne nl] at h2 h4
    exact er.ne j l d e a h1 h2 h3 h4
mutual
def tgN : Tg → List Nat
  | .nm i => [i]
  | .tu ts => tgNs ts
def tgNs : List Tg → List Nat
  | [] => []
  | t :: ts => tgN t ++ tgNs ts
end
/-- the state behind a target -/
structure Gt (X : Ct) (Hf G H : Hp) (env : Env) (σ : L2.St) (is : List Nat) (e1 : Env) (σ' : L2.St) : Prop where
  er : ER X Hf G H e1 σ'
  len : σ'.length = σ.length
  off : ∀ i, i ∉ is → σ'[i]? = σ[i]?
  own : ∀ (i : Nat) d, e1[i]? = some (some (true, d)) → env[i]? = some (some (true, d)) ∧ σ'[i]? = σ[i]?
def semG (X : Ct) (tg : Tg) : TG := fun v σ H Q => ∃ (Hf G : Hp) (env : Env) (d : D) (e1 : Env), ER X Hf G H env σ ∧ RD X.K X.ad G v d ∧ Sub G H ∧ asgD tg d env = some e1 ∧ ∀ σ', Gt X Hf G H env σ (tgN tg) e1 σ' → Q σ' H
def semGs (X : Ct) (ts : List Tg) : TGs := fun vs σ H Q => ∃ (Hf G : Hp) (env : Env) (ds : List D) (e1 : Env), ER X Hf G H env σ ∧ RDs X.K X.ad G vs ds ∧ Sub G H ∧ asgDs ts ds env = some e1 ∧ ∀ σ', Gt X Hf G H env σ (tgNs ts) e1 σ' → Q σ' H
theorem PG.mono {X : Cx} {tg : Expr} {t t' : TG} (h : PG X tg t) (k : ∀ v σ H Q, t' v σ H Q → t v σ H Q) : PG X tg t' := ⟨fun pins s σ H v u Q I r q => h.run pins s σ H v u Q I r (k v σ H Q q)⟩
theorem PG.or {X : Cx} {tg : Expr} {t t' : TG} (h : PG X tg t) (h' : PG X tg t') : PG X tg (fun v σ H Q => t v σ H Q ∨ t' v σ H Q) := ⟨fun pins s σ H v u Q I r q => q.elim (h.run pins s σ H v u Q I r) (h'.run pins s σ H v u Q I r)⟩
theorem PGs.mono {X : Cx} {tg : List Expr} {t t' : TGs} (h : PGs X tg t) (k : ∀ v σ H Q, t' v σ H Q → t v σ H Q) : PGs X tg t' := ⟨fun pins s σ H v u Q I r q => h.run pins s σ H v u Q I r (k v σ H Q q)⟩
theorem asgEach_cons {e : Expr} (h : noStar e = true) (es : List Expr) (env : PySem.Env) : assignEach (e :: es) env = (false, assign e env) :: assignEach es env := by
  cases e <;> first | rfl | cases h
theorem asgEach_len : ∀ {es : List Expr} {env : PySem.Env}, es.all noStar = true → (assignEach es env).length = es.length
  | [], _, _ => rfl
  | e :: es, env, h => by
    rw [List.all_cons] at h
    obtain ⟨h1, h2⟩ := ba2 h
    rw [asgEach_cons h1, List.length_cons, List.length_cons, asgEach_len h2]
theorem asgEach_plain : ∀ {es : List Expr} {env : PySem.Env}, es.all noStar = true → (assignEach es env).findIdx? (·.1) = none
  | [], _, _ => rfl
  | e :: es, env, h => by
    rw [List.all_cons] at h
    obtain ⟨h1, h2⟩ := ba2 h
    rw [asgEach_cons h1, List.findIdx?_cons, asgEach_plain h2]
    rfl
theorem asgDs_len : ∀ {ts : List Tg} {ds : List D} {env e1 : Env}, asgDs ts ds env = some e1 → ds.length = ts.length
  | [], [], _, _, _ => rfl
  | t :: ts, d :: ds, env, e1, h => by
    simp only [asgDs, Option.bind_eq_some_iff] at h
    obtain ⟨e2, _, h⟩ := h
    rw [List.length_cons, List.length_cons, asgDs_len h]
  | [], _ :: _, _, _, h => by simp [asgDs] at h
  | _ :: _, [], _, _, h => by simp [asgDs] at h
section
variable {X : Cx} {T : Ct} {c : Cc} {tb : Tab} {N : List Str} {ow : Option Scope} {sc : Scope} {W : WX} {k : Nat}
theorem g_nm (gd : Gd X T c tb N ow sc W k) {i : Nat} {x : Str} {pos : Pos} (hi : eqOS N[i]? x = true) (hl : locB sc x = true) (ho : ownB ow x = true) : PG X (.Name x pos) (semG T (.nm i)) := by
  refine PG.mono (pg_name (i := i) gd.nd (by rw [gd.hN]; exact eqOS_ok hi) (by rw [gd.hsc]; exact locB_ok hl) (gd.fn x ho)) fun v σ H Q q => ?_
  obtain ⟨Hf, G, env, d, e1, er, r, sb, ea, q⟩ := q
  cases ea
  refine q _ ⟨er.put r i, List.length_set, fun j hj => List.getElem?_set_ne (fun z => hj (by rw [← z]; exact List.mem_singleton.mpr rfl)), fun j e h => ?_⟩
  by_cases hj : i = j
  · subst hj
    rw [List.getElem?_set_self'] at h
    cases q : env[i]? with
    | none => rw [q] at h; cases h
    | some u => rw [q] at h; cases h
  · rw [List.getElem?_set_ne hj] at h ⊢
    exact ⟨h, rfl⟩
theorem gs_nil : PGs X [] (semGs T []) := by
  refine PGs.mono pgs_nil fun vs σ H Q q => ?_
  obtain ⟨Hf, G, env, ds, e1, er, r, sb, ea, q⟩ := q
  cases r with
  | nil => cases ea; exact ⟨rfl, q σ ⟨er, rfl, fun _ _ => rfl, fun _ _ h => ⟨h, rfl⟩⟩⟩
  | cons _ _ => simp [asgDs] at ea
theorem gs_cons {e : Expr} {es : List Expr} {t : Tg} {ts : List Tg} (hn : noStar e = true) (h : PG X e (semG T t)) (h' : PGs X es (semGs T ts)) : PGs X (e :: es) (semGs T (t :: ts)) := by
  refine PGs.mono (pgs_cons h h' (by rw [asgEach_cons hn]; rfl)) fun vs σ H Q q => ?_
  obtain ⟨Hf, G, env, ds, e1, er, r, sb, ea, q⟩ := q
  cases r with
  | nil => simp [asgDs] at ea
  | cons r rr =>
    simp only [asgDs, Option.bind_eq_some_iff] at ea
    obtain ⟨e2, ea, eb⟩ := ea
    refine ⟨_, _, rfl, Hf, G, env, _, e2, er, r, sb, ea, fun σ1 g1 => ⟨Hf, G, e2, _, e1, g1.er, rr, sb, eb, fun σ2 g2 => q σ2 ⟨g2.er, g2.len.trans g1.len, fun i hi => ?_, fun i d hd => ?_⟩⟩⟩
    · have hi' : i ∉ tgN t ∧ i ∉ tgNs ts := by
        simp only [tgNs, List.mem_append, not_or] at hi; exact hi
      rw [g2.off i hi'.2, g1.off i hi'.1]
    · obtain ⟨h1, h2⟩ := g2.own i d hd
      obtain ⟨h3, h4⟩ := g1.own i d h1
      exact ⟨h3, h2.trans h4⟩
theorem g_tu (gd : Gd X T c tb N ow sc W k) {es : List Expr} {j : Nat} {ts : List Tg} {pos : Pos} (hs : es.all noStar = true) (hl : es.length = ts.length) (h : PGs X es (semGs T ts)) : PG X (.Tuple es j pos) (semG T (.tu ts)) := by
  refine PG.mono (PG.or (pg_tup (n := ts.length) gd.calm h (by rw [asgEach_len hs, hl]) (asgEach_plain hs)) (pg_lst (n := ts.length) gd.calm h (by rw [asgEach_len hs, hl]) (asgEach_plain hs))) fun v σ H Q q => ?_
  obtain ⟨Hf, G, env, d, e1, er, r, sb, ea, q⟩ := q
  rw [gd.hK]
  cases r with
  | tup h r =>
    refine .inl ⟨_, _, rfl, sb.sqT h, by rw [r.length]; exact asgDs_len ea, Hf, G, env, _, e1, er, r, sb, ea, q⟩
  | lst h r =>
    refine .inr ⟨_, _, rfl, .inl (.inl (sb _ _ h)), by rw [r.length]; exact asgDs_len ea, Hf, G, env, _, e1, er, r, sb, ea, q⟩
  | _ => simp [asgD] at ea
end
end Ev
set_option Elab.async false
set_option linter.all false
set_option maxRecDepth 100000
set_option maxHeartbeats 4000000
namespace Ev
open PySem PySem.Spec PyProof.Rows L2
/-! ### comprehensions -/
/-- a step that may change the list at D -/
structure StD (X : Ct) (D : Addr) (G H : Hp) (s : Sg) (G' H' : Hp) (s' : Sg) : Prop where
  g : Sub G G'
  h : ∀ a o, H a = some o → X.ad ≠ some a → a ≠ D → H' a = some o
  n : ∀ a, H' a = none → H a = none
  f : ∀ a, G a = none → H a ≠ none → G' a = none
  s : Sub G' H'
  r : Rs X s' G' H'
section
variable {X : Ct} {D : Addr} {G H G' H' G0 H0 G2 H2 : Hp} {s s' s0 s2 : Sg}
theorem Stp.d (t : Stp X G H s G' H' s') : StD X D G H s G' H' s' := ⟨t.g, fun a o e k _ => t.h a o e k, t.n, t.f, t.s, t.r⟩
theorem StD.trans (a : StD X D G H s G' H' s') (b : StD X D G' H' s' G2 H2 s2) : StD X D G H s G2 H2 s2 where
  g := a.g.trans b.g
  h := fun c o e k l => b.h c o (a.h c o e k l) k l
  n := fun c e => a.n c (b.n c e)
  f := fun c e k => b.f c (a.f c e k) fun z => k (a.n c z)
  s := b.s
  r := b.r
theorem StD.refl' (t : StD X D G H s G' H' s') : Stp X G' H' s' G' H' s' := .refl t.s t.r
theorem Stp.transD (a : Stp X G0 H0 s0 G H s) (b : StD X D G H s G' H' s') (h : H0 D = none) : Stp X G0 H0 s0 G' H' s' where
  g := a.g.trans b.g
  h := fun c o e k => b.h c o (a.h c o e k) k (fun z => by rw [z, h] at e; cases e)
  n := fun c e => a.n c (b.n c e)
  f := fun c e k => b.f c (a.f c e k) fun z => k (a.n c z)
  s := b.s
  r := b.r
theorem StD.put (t : StD X D G0 H0 s0 G H s) (g : G D = none) (na : X.ad ≠ some D) (o : HO) (hD : H D ≠ none) : StD X D G0 H0 s0 G (upd H D o) s where
  g := t.g
  h := fun a u e k l => by rw [upd_ne l]; exact t.h a u e k l
  n := fun a e => t.n a (by
    by_cases z : a = D
    · subst z; rw [upd_same] at e; cases e
    · rw [upd_ne z] at e; exact e)
  f := t.f
  s := fun a u e => by
    have nd : a ≠ D := fun z => by rw [z, g] at e; cases e
    rw [upd_ne nd]; exact t.s a u e
  r := by
    have r := t.r
    unfold Rs at *
    cases e : X.ad with
    | none => cases s with
      | none => trivial
      | some d => rw [e] at r; exact r.elim
    | some a => cases s with
      | none => rw [e] at r; exact r.elim
      | some d =>
        rw [e] at r
        obtain ⟨k, q, z⟩ := r
        have nd : a ≠ D := fun z => na (by rw [e, z])
        exact ⟨k, by rw [upd_ne nd]; exact q, z⟩
end
/-- the frame's names; D is none of theirs -/
structure ErD (X : Ct) (D : Addr) (Hf G H : Hp) (env : Env) (σ : L2.St) : Prop where
  er : ER X Hf G H env σ
  nd : ∀ (i : Nat) d, env[i]? = some (some (true, d)) → σ[i]? ≠ some (some (.ref D))
theorem ErD.step {X : Ct} {D : Addr} {Hf G H G' H' : Hp} {s s' : Sg} {env : Env} {σ : L2.St} (r : ErD X D Hf G H env σ) (t : StD X D G H s G' H' s') : ErD X D Hf G' H' env σ where
  er := {
    len := r.er.len
    sh := fun i d e => by
      obtain ⟨v, h1, h2⟩ := r.er.sh i d e
      exact ⟨v, h1, h2.mono t.g⟩
    ow := fun i d e => by
      obtain ⟨a, xs, ds, e1, e2, e3, e4, e5, e6, e7⟩ := r.er.ow i d e
      have na : a ≠ D := fun z => r.nd i d e (by rw [e1, z])
      exact ⟨a, xs, ds, e1, e2, t.h _ _ e3 e5 na, t.f _ e4 (by rw [e3]; simp), e5, e6.mono t.g, e7⟩
    ne := r.er.ne }
  nd := r.nd
/-- the list that is made -/
structure Ac (X : Ct) (D : Addr) (G0 Hf : Hp) (s0 : Sg) (G H : Hp) (s : Sg) (ds : List Ev.D) : Prop where
  l : ∃ acc, H D = some (.lst acc) ∧ RDs X.K X.ad G acc ds
  g : G D = none
  t : Stp X G0 Hf s0 G H s
theorem Wp.noEx {α β : Type} {r : Out α} {f : α → Sg → Out β} {Q : β → Sg → Prop} {E : Exn → Sg → Prop} (h : Wp (Ev.noEx (r.bind f)) Q E) : Wp r (fun a s => Wp (Ev.noEx (f a s)) Q E) (fun _ _ => False) := by
  cases r with
  | ok a s => exact h
  | ex x s => exact h.elim
  | stk => exact h.elim
theorem Wp.noEx0 {α : Type} {r : Out α} {Q : α → Sg → Prop} {E : Exn → Sg → Prop} (h : Wp (Ev.noEx r) Q E) : Wp r Q (fun _ _ => False) := by
  cases r with
  | ok a s => exact h
  | ex x s => exact h.elim
  | stk => exact h.elim
theorem Wp.noExI {α : Type} {r : Out α} {Q : α → Sg → Prop} {E : Exn → Sg → Prop} (h : Wp r Q (fun _ _ => False)) : Wp (Ev.noEx r) Q E := by
  cases r with
  | ok a s => exact h
  | ex x s => exact h.elim
  | stk => exact h.elim
theorem Wp.out {α : Type} {r : Out α} {Q : α → Sg → Prop} {P : Prop} {E : Exn → Sg → Prop} (h : Wp r Q E) (k : ∀ a s, Q a s → P) (l : ∀ x s, E x s → P) : P := by
  cases r with
  | ok a s => exact k _ _ h
  | ex x s => exact l _ _ h
  | stk => exact h.elim
theorem wipe_same {σ σ' : L2.St} {vs is : List Nat} (hl : σ'.length = σ.length) (ho : ∀ i, i ∉ is → σ'[i]? = σ[i]?) (hi : ∀ i ∈ is, i ∈ vs) : wipe σ' vs = wipe σ vs := by
  have at_ : ∀ (vs : List Nat) (i : Nat), i ∉ vs → σ'[i]? = σ[i]? → (wipe σ' vs)[i]? = (wipe σ vs)[i]? := fun vs i h e => by rw [wipe_out h, wipe_out h, e]
  apply List.ext_getElem?
  intro i
  have in_ : ∀ (vs : List Nat) (i : Nat), i ∈ vs → (wipe σ' vs)[i]? = (wipe σ vs)[i]? := fun vs => by
    induction vs with
    | nil => intro i h; cases h
    | cons v vs ih =>
      intro i h
      show ((wipe σ' vs).set v none)[i]? = ((wipe σ vs).set v none)[i]?
      by_cases e : v = i
      · subst e
        rw [List.getElem?_set_self', List.getElem?_set_self']
        have hl2 : (wipe σ' vs).length = (wipe σ vs).length := by rw [wipe_length, wipe_length, hl]
        by_cases lt : v < (wipe σ vs).length
        · rw [List.getElem?_eq_getElem lt, List.getElem?_eq_getElem (hl2 ▸ lt)]; rfl
        · rw [List.getElem?_eq_none_iff.mpr (Nat.le_of_not_lt lt), List.getElem?_eq_none_iff.mpr (hl2 ▸ Nat.le_of_not_lt lt)]
      · rw [List.getElem?_set_ne e, List.getElem?_set_ne e]
        rcases List.mem_cons.mp h with z | z
        · exact absurd z.symm e
        · exact ih i z
  by_cases h : i ∈ vs
  · exact in_ vs i h
  · exact at_ vs i h (ho i fun z => h (hi i z))
theorem wipe_idem (σ : L2.St) (vs : List Nat) : wipe (wipe σ vs) vs = wipe σ vs := by
  refine wipe_same (is := vs) (wipe_length _ _) (fun i h => wipe_out h) (fun _ h => h)
theorem ER.wipe {X : Ct} {Hf G H : Hp} {env : Env} {σ : L2.St} (er : ER X Hf G H env σ) : ∀ vs, ER X Hf G H (wipeE env vs) (wipe σ vs) ∧ ∀ (i : Nat) d, (wipeE env vs)[i]? = some (some (true, d)) → env[i]? = some (some (true, d)) ∧ (wipe σ vs)[i]? = σ[i]?
  | [] => ⟨er, fun i d h => ⟨h, rfl⟩⟩
  | v :: vs => by
    obtain ⟨e, h⟩ := ER.wipe er vs
    have aux : ∀ {i : Nat} {b : Bool} {d : D}, ((wipeE env vs).set v none)[i]? = some (some (b, d)) → v ≠ i ∧ (wipeE env vs)[i]? = some (some (b, d)) := fun {i b d} h => by
      by_cases hj : v = i
      · subst hj
        rw [List.getElem?_set_self'] at h
        cases q : (wipeE env vs)[v]? with
        | none => rw [q] at h; cases h
        | some u => rw [q] at h; cases h
      · rw [List.getElem?_set_ne hj] at h
        exact ⟨hj, h⟩
    refine ⟨⟨?_, ?_, ?_, ?_⟩, ?_⟩
    · show ((L2.wipe σ vs).set v none).length = ((wipeE env vs).set v none).length
      rw [List.length_set, List.length_set, e.len]
    · intro i d q
      obtain ⟨n, q⟩ := aux q
      show ∃ w, ((L2.wipe σ vs).set v none)[i]? = _ ∧ _
      rw [List.getElem?_set_ne n]
      exact e.sh i d q
    · intro i d q
      obtain ⟨n, q⟩ := aux q
      show ∃ a xs ds, ((L2.wipe σ vs).set v none)[i]? = _ ∧ _
      rw [List.getElem?_set_ne n]
      exact e.ow i d q
    · intro i j d d' a q1 q2 q3 q4
      obtain ⟨n1, q1⟩ := aux q1
      obtain ⟨n2, q2⟩ := aux q2
      have q3' : ((L2.wipe σ vs).set v none)[i]? = some (some (.ref a)) := q3
      have q4' : ((L2.wipe σ vs).set v none)[j]? = some (some (.ref a)) := q4
      rw [List.getElem?_set_ne n1] at q3'
      rw [List.getElem?_set_ne n2] at q4'
      exact e.ne i j d d' a q1 q2 q3' q4'
    · intro i d q
      obtain ⟨n, q⟩ := aux q
      obtain ⟨h1, h2⟩ := h i d q
      refine ⟨h1, ?_⟩
      show ((L2.wipe σ vs).set v none)[i]? = _
      rw [List.getElem?_set_ne n, h2]
end Ev
set_option Elab.async false
set_option linter.all false
set_option maxRecDepth 100000
set_option maxHeartbeats 4000000
namespace Ev
open PySem PySem.Spec PyProof.Rows L2
theorem Ac.step {X : Ct} {D : Addr} {G0 Hf G H G' H' : Hp} {s0 s s' : Sg} {ds : List Ev.D} (a : Ac X D G0 Hf s0 G H s ds) (na : X.ad ≠ some D) (t : Stp X G H s G' H' s') : Ac X D G0 Hf s0 G' H' s' ds := by
  obtain ⟨acc, h1, h2⟩ := a.l
  exact ⟨⟨acc, t.h _ _ h1 na, h2.mono t.g⟩, t.f _ a.g (by rw [h1]; simp), a.t.trans t⟩
theorem lc_turns {X : Ct} {D : Addr} {G0 Hf Gs Gb Hb : Hp} {s0 sb : Sg} {J : It} {src : Hp → Prop} {items : List Ev.D} {tg : Tg} {one : Env → Sg → Out (List Ev.D)} {vs : List Nat} {env : Env} {σ : L2.St} {ds : List Ev.D} {Pf : List Ev.D → Sg → Prop} {Fin : Hp → Prop} {body : L2.St → Hp → (Hp → Prop) → Prop}
    (wk : Wk X J Gs src items) (hs : ∀ G2 H2 s2, StD X D Gb Hb sb G2 H2 s2 → src H2) (gs : Sub Gs Gb) (hv : ∀ i ∈ tgN tg, i ∈ vs) (na : X.ad ≠ some D)
    (ac : Ac X D G0 Hf s0 Gb Hb sb ds) (er : ErD X D Hf Gb Hb (wipeE env vs) (wipe σ vs)) (q : Wp (lcLoop (asgD tg) one items (wipeE env vs) sb) Pf (fun _ _ => False))
    (hb : ∀ es s', Pf es s' → ds.length + es.length ≤ sizeLine)
    (fin : ∀ es s' G' H', Pf es s' → StD X D Gb Hb sb G' H' s' → Ac X D G0 Hf s0 G' H' s' (ds ++ es) → Fin H')
    (hbody : ∀ (e1 : Env) (s1 : Sg) (dd : List Ev.D) (G2 H2 : Hp) (σ2 : L2.St) (P : List Ev.D → Sg → Prop) (Nx : Hp → Prop), StD X D Gb Hb sb G2 H2 s1 → Ac X D G0 Hf s0 G2 H2 s1 dd → ErD X D Hf G2 H2 e1 σ2 → Wp (one e1 s1) P (fun _ _ => False) → (∀ es s2, P es s2 → dd.length + es.length ≤ sizeLine) → (∀ es s2 G3 H3, P es s2 → StD X D G2 H2 s1 G3 H3 s2 → Ac X D G0 Hf s0 G3 H3 s2 (dd ++ es) → Nx H3) → body σ2 H2 Nx) :
    ∃ W : Nat → Nat → Hp → Prop, (∃ m, W 0 m Hb) ∧ ∀ i m H, W i m H → (J.stop i H ∧ Fin H) ∨ (J.go i H ∧ ∃ Nx : Hp → Prop, (∀ H', Nx H' → ∃ m', m' < m ∧ W (i + 1) m' H') ∧ ∀ x H', J.yld i H x H' → semG X tg x (wipe σ vs) H' fun σ2 H2 => wipe σ2 vs = wipe σ vs ∧ body σ2 H2 Nx) := by
  let Z : Nat → Hp → Prop := fun i H => ∃ (G2 : Hp) (s2 : Sg) (es : List Ev.D), StD X D Gb Hb sb G2 H s2 ∧ Ac X D G0 Hf s0 G2 H s2 (ds ++ es) ∧ Wp (lcLoop (asgD tg) one (items.drop i) (wipeE env vs) s2) (fun rs s3 => Pf (es ++ rs) s3) (fun _ _ => False)
  refine ⟨fun i m H => m = items.length - i ∧ i ≤ items.length ∧ Z i H, ⟨_, rfl, Nat.zero_le _, Gb, sb, [], ac.t.same.d, by rw [List.append_nil]; exact ac, q⟩, ?_⟩
  rintro i m H ⟨rfl, hi, G2, s2, es, t2, a2, q2⟩
  by_cases lt : i < items.length
  · refine .inr ⟨wk.go i H (hs _ _ _ t2) lt, Z (i + 1), fun H' z => ⟨_, by omega, rfl, lt, z⟩, fun x H' y => ?_⟩
    have hd : items[i]? = some items[i] := List.getElem?_eq_getElem lt
    obtain ⟨G3, t3, r3⟩ := (wk.yld i H x H' _ (hs _ _ _ t2) hd y).step t2.refl' (gs.trans t2.g)
    rw [List.drop_eq_getElem_cons lt] at q2
    simp only [lcLoop] at q2
    cases e : asgD tg items[i] (wipeE env vs) with
    | none => rw [e] at q2; exact q2.elim
    | some e1 =>
      rw [e] at q2
      simp only [Wp.bind] at q2
      have e3 : ErD X D Hf G3 H' (wipeE env vs) (wipe σ vs) := er.step (t2.trans t3.d)
      refine ⟨Hf, G3, wipeE env vs, _, e1, e3.er, r3, t3.s, e, fun σ2 gt => ⟨(wipe_same gt.len gt.off hv).trans (wipe_idem σ vs), ?_⟩⟩
      refine hbody e1 s2 (ds ++ es) G3 H' σ2 _ _ (t2.trans t3.d) (a2.step na t3) ⟨gt.er, fun j d h => ?_⟩ q2 (fun es' s3 p => ?_) (fun es' s3 G4 H4 p t4 a4 => ?_)
      · obtain ⟨h1, h2⟩ := gt.own j d h
        rw [h2]; exact e3.nd j d h1
      · refine Wp.out p (fun rs s4 z => ?_) (fun _ _ z => z.elim)
        have := hb _ _ z
        simp only [List.length_append] at this ⊢
        omega
      · refine ⟨G4, s3, es ++ es', (t2.trans t3.d).trans t4, by rw [← List.append_assoc]; exact a4, p.imp (fun rs s4 z => ?_) (fun _ _ z => z)⟩
        rw [List.append_assoc]; exact z
  · have e : i = items.length := by omega
    subst e
    rw [List.drop_length] at q2
    have q3 : Pf (es ++ []) s2 := q2
    rw [List.append_nil] at q3
    exact .inl ⟨wk.stop H (hs _ _ _ t2), fin es s2 G2 H q3 t2 a2⟩
end Ev
set_option Elab.async false
set_option linter.all false
set_option maxRecDepth 100000
set_option maxHeartbeats 4000000
namespace Ev
open PySem PySem.Spec PyProof.Rows L2
abbrev WF : WX := fun _ _ _ _ => False
def semTs (X : Ct) (c : Cc) (W : WX) (cs : List E) : TT := fun σ H Q => ∃ (G0 Hf : Hp) (s0 : Sg) (G : Hp) (s : Sg) (env : Env), Stp X G0 Hf s0 G H s ∧ ER X Hf G H env σ ∧
  Wp (testsD (evTs c cs) env s) (fun b s' => ∀ G' H', Stp X G H s G' H' s' → Q b H') (exW X W σ G H s)
theorem PTs.mono {X : Cx} {e : List Expr} {t t' : TT} (h : PTs X e t) (k : ∀ σ H Q, t' σ H Q → t σ H Q) : PTs X e t' := ⟨fun pins s σ H Q I q => h.run pins s σ H Q I (k σ H Q q)⟩
section
variable {X : Cx} {T : Ct} {c : Cc} {tb : Tab} {N : List Str} {ow : Option Scope} {sc : Scope} {W : WX} {k : Nat}
theorem cts_nil : PTs X [] (semTs T c W []) := PTs.mono pts_nil fun σ H Q q => by
  obtain ⟨G0, Hf, s0, G, s, env, t, er, q⟩ := q
  exact q G H t.same
theorem cts_one {a : Expr} {ea : E} (h : PT X a (semT T c W ea)) : PTs X [a] (semTs T c W [ea]) := PTs.mono (pts_one h) fun σ H Q q => by
  obtain ⟨G0, Hf, s0, G, s, env, t, er, q⟩ := q
  exact ⟨G0, Hf, s0, G, s, env, t, er, q⟩
/-- the context of a comprehension's block -/
theorem Gd.blk (gd : Gd X T c tb N ow sc W k) {scope : Scope} (s : Shared) (H : Hp) (C : Addr) (cl : List (Str × Addr)) (fp : List Addr) : Gd (X.blk s H scope (compEnvC scope cl C X.env) fp) T c tb N (some scope) (relS scope sc) WF k where
  hN := gd.hN
  nd := gd.nd
  hsc := by rw [← gd.hsc]; rfl
  hK := gd.hK
  calm := gd.calm
  takes := fun u s' h => by
    obtain ⟨_, _, _, _, _, _, h⟩ := h
    simp_all
  room := gd.room
  pass := PassesOwn.never
  tab := gd.tab
  u := gd.u
  fn := fun x h => by
    have h' : (match scope.names.lookup x with | some .local => true | some .cell => true | _ => false) = true := h
    split at h'
    · rename_i e
      exact .inr (lookup_relabel_local e)
    · rename_i e
      exact .inl (by show (scope.names.lookup x == some .cell) = true; rw [e]; rfl)
    · cases h'
/-- behind a clause's target: the tests, the item -/
theorem lc_leaf {X : Ct} {c : Cc} {D : Addr} {G0 Hf G2 H2 : Hp} {s0 s1 : Sg} {cs : List E} {elt : E} {e1 : Env} {σ2 : L2.St} {dd : List Ev.D} {P : List Ev.D → Sg → Prop} {Nx : Hp → Prop} (na : X.ad ≠ some D) (hf : Hf D = none)
    (ac : Ac X D G0 Hf s0 G2 H2 s1 dd) (er : ErD X D Hf G2 H2 e1 σ2)
    (q : Wp ((testsD (evTs c cs) e1 s1).bind fun b s1 => if b = true then (evE c elt e1 s1).bind fun x s2 => lift ((keep x).map fun d => [d]) s2 else .ok [] s1) P (fun _ _ => False))
    (hb : ∀ es s2, P es s2 → dd.length + es.length ≤ sizeLine) (nx : ∀ es s2 G3 H3, P es s2 → StD X D G2 H2 s1 G3 H3 s2 → Ac X D G0 Hf s0 G3 H3 s2 (dd ++ es) → Nx H3) :
    semTs X c WF cs σ2 H2 fun b H3 => if b = true then semE X c WF elt σ2 H3 fun y H4 => ∃ acc, H4 D = some (.lst acc) ∧ acc.length < sizeLine ∧ Nx (upd H4 D (.lst (acc ++ [y]))) else Nx H3 := by
  rw [Wp.bind] at q
  refine ⟨G0, Hf, s0, G2, s1, e1, ac.t, er.er, q.imp (fun b s2 q2 G3 H3 t3 => ?_) fun _ _ z => z.elim⟩
  have a3 := ac.step na t3
  cases b with
  | false =>
    show Nx H3
    exact nx [] s2 G3 H3 q2 t3.d (by rw [List.append_nil]; exact a3)
  | true =>
    have q2 := q2
    rw [if_pos rfl, Wp.bind] at q2
    show semE X c WF elt σ2 H3 _
    refine semE.one (ac.t.trans t3) (er.er.step t3) (q2.imp (fun _ _ z => z) fun _ _ z => z.elim) fun x u G4 H4 s4 t4 rx q4 => ?_
    obtain ⟨l, e, p⟩ := Wp.lift q4
    obtain ⟨d, kd, rfl⟩ := Option.map_eq_some_iff.mp e
    obtain ⟨G5, t5, g5, n5, r5, m5⟩ := rx.keep t4 kd
    obtain ⟨acc, h1, h2⟩ := a3.l
    have h3 := t5.h _ _ h1 na
    have g3 := t5.f _ a3.g (by rw [h1]; simp)
    have len := h2.length
    have hb1 := hb _ _ p
    simp only [List.length_cons, List.length_nil] at hb1
    have st : StD X D G2 H2 s1 G5 (upd H4 D (.lst (acc ++ [u]))) s4 := ((t3.trans t5).d).put g3 na _ (by rw [h3]; simp)
    refine ⟨acc, h3, by omega, nx [d] s4 G5 _ p st ⟨⟨_, upd_same, (h2.mono t5.g).append (.cons r5 .nil)⟩, g3, ac.t.transD st hf⟩⟩
theorem wp_small {l : List Ev.D} {s : Sg} {Q : VD → Sg → Prop} {E : Exn → Sg → Prop} (h : Wp (small l s) Q E) : l.length ≤ sizeLine ∧ Q (.fr, .lst l) s := by
  unfold small at h
  split at h
  · exact ⟨by assumption, h⟩
  · exact h.elim
theorem itW_ok {k : IK} {xs : List VD} {items : List Ev.D} (h : itW k xs = some items) : xs.any isLo = false ∧ itD k (dat xs) = some items := by
  unfold itW at h
  split at h
  · cases h
  · rename_i z
    exact ⟨by simpa using z, h⟩
theorem s_lc_core (gd : Gd X T c tb N ow sc W k) {ik : IK} {ies cs : List E} {elt : E} {tg : Tg} {vs : List Nat} (hv : ∀ i ∈ tgN tg, i ∈ vs) {σ : L2.St} {H : Hp} {Q : VK} (q : semE T c W (.lc elt tg ik ies cs vs) σ H Q) : tLc (semI T c W ik ies) (semG T tg) (semTs T c WF cs) (semE T c WF elt) vs σ H Q := by
  obtain ⟨G0, Hf, s0, G, s, env, t, er, q⟩ := q
  simp only [evE, Wp.bind] at q
  refine ⟨G0, Hf, s0, G, s, env, t, er, q.imp (fun xs s1 q1 => ?_) fun _ _ z => z⟩
  obtain ⟨items, e1, q1⟩ := Wp.lift q1
  refine ⟨items, e1, fun J G1 H1 src t1 st gr wk D hD => ?_⟩
  have na : T.ad ≠ some D := t1.adNe hD
  have hH : H D = none := t1.n _ hD
  have hf : Hf D = none := t.n _ hH
  have tD : Stp T G H s G1 (upd H1 D (.lst [])) s1 := t1.new hD
  have gD : G1 D = none := by
    cases z : G1 D with
    | none => rfl
    | some u => rw [t1.s _ _ z] at hD; cases hD
  have er1 := (er.step tD).wipe vs
  refine lc_turns (sb := s1) (Gb := G1) wk (fun G2 H2 s2 u => st G2 H2 s2 ((t1.same).new hD |>.transD u hD)) (Sub.refl _) hv na (ds := [])
    ⟨⟨[], upd_same, .nil⟩, gD, t.trans tD⟩ ⟨er1.1, fun i d h z => ?_⟩ q1.noEx0 (fun es s' z => ?_) (fun es s' G' H' z u a => ?_) (fun e1 s1 dd G2 H2 σ2 P Nx u a e q hb nx => lc_leaf na hf a e q hb nx)
  · obtain ⟨h1, h2⟩ := er1.2 i d h
    rw [h2] at z
    obtain ⟨a, xs, ds, k1, k2, k3, _⟩ := er.ow i d h1
    rw [k1] at z; cases z
    rw [hH] at k3; cases k3
  · simpa using (wp_small z).1
  · obtain ⟨acc, h1, h2⟩ := a.l
    exact (wp_small z).2 (.ref D) G' H' (tD.transD u hH) ⟨D, acc, _, rfl, rfl, h1, a.g, na, h2, hf, fun _ => hH⟩
theorem s_lc2_core (gd : Gd X T c tb N ow sc W k) {ik ik1 : IK} {ies cs ies1 cs1 : List E} {elt : E} {tg tg1 : Tg} {vs vs1 : List Nat} (hv : ∀ i ∈ tgN tg, i ∈ vs) (hv1 : ∀ i ∈ tgN tg1, i ∈ vs1) {σ : L2.St} {H : Hp} {Q : VK} (q : semE T c W (.lc2 elt tg ik ies cs tg1 ik1 ies1 cs1 vs vs1) σ H Q) :
    tLc2 (semI T c W ik ies) (semG T tg) (semTs T c WF cs) (semI T c WF ik1 ies1) (semG T tg1) (semTs T c WF cs1) (semE T c WF elt) vs vs1 σ H Q := by
  obtain ⟨G0, Hf, s0, G, s, env, t, er, q⟩ := q
  simp only [evE, Wp.bind] at q
  refine ⟨G0, Hf, s0, G, s, env, t, er, q.imp (fun xs s1 q1 => ?_) fun _ _ z => z⟩
  obtain ⟨items, e1, q1⟩ := Wp.lift q1
  refine ⟨items, e1, fun J G1 H1 src t1 st gr wk D hD => ?_⟩
  have na : T.ad ≠ some D := t1.adNe hD
  have hH : H D = none := t1.n _ hD
  have hf : Hf D = none := t.n _ hH
  have tD : Stp T G H s G1 (upd H1 D (.lst [])) s1 := t1.new hD
  have gD : G1 D = none := by
    cases z : G1 D with
    | none => rfl
    | some u => rw [t1.s _ _ z] at hD; cases hD
  have er1 := (er.step tD).wipe vs
  refine lc_turns (sb := s1) (Gb := G1) wk (fun G2 H2 s2 u => st G2 H2 s2 ((t1.same).new hD |>.transD u hD)) (Sub.refl _) hv na (ds := [])
    ⟨⟨[], upd_same, .nil⟩, gD, t.trans tD⟩ ⟨er1.1, fun i d h z => ?_⟩ q1.noEx0 (fun es s' z => ?_) (fun es s' G' H' z u a => ?_) (fun e1 s1 dd G2 H2 σ2 P Nx u a e q hb nx => ?_)
  · obtain ⟨h1, h2⟩ := er1.2 i d h
    rw [h2] at z
    obtain ⟨a, xs, ds, k1, k2, k3, _⟩ := er.ow i d h1
    rw [k1] at z; cases z
    rw [hH] at k3; cases k3
  · simpa using (wp_small z).1
  · obtain ⟨acc, h1, h2⟩ := a.l
    exact (wp_small z).2 (.ref D) G' H' (tD.transD u hH) ⟨D, acc, _, rfl, rfl, h1, a.g, na, h2, hf, fun _ => hH⟩
  · rw [Wp.bind] at q
    refine ⟨G0, Hf, s0, G2, s1, e1, a.t, e.er, q.imp (fun b s2 q2 G3 H3 t3 => ?_) fun _ _ z => z.elim⟩
    have a3 := a.step na t3
    cases b with
    | false =>
      show Nx H3
      exact nx [] s2 G3 H3 q2 t3.d (by rw [List.append_nil]; exact a3)
    | true =>
      have q2 := q2
      rw [if_pos rfl] at q2
      simp only [Wp.bind] at q2
      show semI T c WF ik1 ies1 σ2 H3 _
      refine ⟨G0, Hf, s0, G3, s2, e1, a3.t, e.er.step t3, q2.imp (fun ys s4 q4 => ?_) fun _ _ z => z.elim⟩
      obtain ⟨items1, e4, q5⟩ := Wp.lift q4
      have e4' := itW_ok e4
      refine ⟨items1, by unfold itV; rw [e4'.1]; exact e4'.2, fun J1 G4 H4 src1 t4 st4 gr4 wk4 => ?_⟩
      have a4 := a3.step na t4
      have ed4 := e.step (t3.d.trans t4.d)
      have er4 := ed4.er.wipe vs1
      refine lc_turns (sb := s4) (Gb := G4) wk4 (fun G5 H5 s5 u5 => gr4 e4'.1 H5 (u5.g.trans u5.s)) (Sub.refl _) hv1 na a4 ⟨er4.1, fun i d h z => ?_⟩ q5 hb (fun es s' G' H' z u5 a5 => nx es s' G' H' z ((t3.d.trans t4.d).trans u5) a5) (fun e5 s5 dd5 G5 H5 σ5 P5 Nx5 u5 a5 e5' q5 hb5 nx5 => lc_leaf na hf a5 e5' q5 hb5 nx5)
      obtain ⟨h1, h2⟩ := er4.2 i d h
      rw [h2] at z
      exact ed4.nd i d h1 z
end
end Ev
set_option Elab.async false
set_option linter.all false
set_option maxRecDepth 100000
set_option maxHeartbeats 4000000
namespace Ev
open PySem PySem.Spec PyProof.Rows L2
/-! ### statements -/
def Ws (r : SR) (nx bk ct : Env → Sg → Prop) (rt : VD → Sg → Prop) (ex : Exn → Env → Sg → Prop) : Prop := match r with
  | .nx e s => nx e s
  | .bk e s => bk e s
  | .ct e s => ct e s
  | .rt x s => rt x s
  | .ex x e s => ex x e s
  | .stk => False
theorem Ws.imp {r : SR} {nx bk ct nx' bk' ct' : Env → Sg → Prop} {rt rt' : VD → Sg → Prop} {ex ex' : Exn → Env → Sg → Prop} (h : Ws r nx bk ct rt ex) (h1 : ∀ e s, nx e s → nx' e s) (h2 : ∀ e s, bk e s → bk' e s) (h3 : ∀ e s, ct e s → ct' e s) (h4 : ∀ e s, rt e s → rt' e s) (h5 : ∀ x e s, ex x e s → ex' x e s) : Ws r nx' bk' ct' rt' ex' := by
  cases r with
  | nx e s => exact h1 _ _ h
  | bk e s => exact h2 _ _ h
  | ct e s => exact h3 _ _ h
  | rt x s => exact h4 _ _ h
  | ex x e s => exact h5 _ _ _ h
  | stk => exact h
theorem Ws.seq {r : SR} {f : Env → Sg → SR} {nx bk ct : Env → Sg → Prop} {rt : VD → Sg → Prop} {ex : Exn → Env → Sg → Prop} : Ws (r.seq f) nx bk ct rt ex = Ws r (fun e s => Ws (f e s) nx bk ct rt ex) bk ct rt ex := by cases r <;> rfl
theorem Ws.sr {α : Type} {r : Out α} {env : Env} {f : α → Sg → SR} {nx bk ct : Env → Sg → Prop} {rt : VD → Sg → Prop} {ex : Exn → Env → Sg → Prop} : Ws (r.sr env f) nx bk ct rt ex = Wp r (fun a s => Ws (f a s) nx bk ct rt ex) (fun x s => ex x env s) := by cases r <;> rfl
section
variable (X : Ct) (G0 Hf : Hp) (s0 : Sg) (G : Hp)
def nxK (P : L2.St → Hp → Prop) : Env → Sg → Prop := fun e s' => ∀ σ' G' H', Sub G G' → Stp X G0 Hf s0 G' H' s' → ER X Hf G' H' e σ' → P σ' H'
def rtK (P : V → Hp → Prop) : VD → Sg → Prop := fun x s' => ∀ v G' H', Sub G G' → Stp X G0 Hf s0 G' H' s' → RV X Hf Hf G' H' x v → P v H'
def exK (W : WX) : Exn → Env → Sg → Prop := fun x e s' => ∀ cls d σ' G' H', Sub G G' → Stp X G0 Hf s0 G' H' s' → ER X Hf G' H' e σ' → XR X x cls d H' → W cls d σ' H'
end
section
variable {X : Ct} {G0 Hf G G' : Hp} {s0 : Sg}
theorem nxK.wide {P : L2.St → Hp → Prop} {e : Env} {s : Sg} (h : nxK X G0 Hf s0 G P e s) (g : Sub G G') : nxK X G0 Hf s0 G' P e s := fun σ' G2 H2 u => h σ' G2 H2 (g.trans u)
theorem rtK.wide {P : V → Hp → Prop} {x : VD} {s : Sg} (h : rtK X G0 Hf s0 G P x s) (g : Sub G G') : rtK X G0 Hf s0 G' P x s := fun v G2 H2 u => h v G2 H2 (g.trans u)
theorem exK.wide {W : WX} {x : Exn} {e : Env} {s : Sg} (h : exK X G0 Hf s0 G W x e s) (g : Sub G G') : exK X G0 Hf s0 G' W x e s := fun cls d σ' G2 H2 u => h cls d σ' G2 H2 (g.trans u)
theorem exK.w {W : WX} {x : Exn} {env : Env} {s s' : Sg} {H : Hp} {σ : L2.St} (h : exK X G0 Hf s0 G W x env s') (t : Stp X G0 Hf s0 G H s) (er : ER X Hf G H env σ) : exW X W σ G H s x s' := fun cls d G2 H2 u r => h cls d σ G2 H2 u.g (t.trans u) (er.step u) r
end
def semS (X : Ct) (c : Cc) (W : WX) (st : S) : TS := fun D σ H => ∃ (G0 Hf : Hp) (s0 : Sg) (G : Hp) (s : Sg) (env : Env), Stp X G0 Hf s0 G H s ∧ ER X Hf G H env σ ∧
  Ws (evS c st env s) (nxK X G0 Hf s0 G D.nx) (nxK X G0 Hf s0 G D.bk) (nxK X G0 Hf s0 G D.ct) (rtK X G0 Hf s0 G D.rt) (exK X G0 Hf s0 G W)
def semSs (X : Ct) (c : Cc) (W : WX) (st : List S) : TS := fun D σ H => ∃ (G0 Hf : Hp) (s0 : Sg) (G : Hp) (s : Sg) (env : Env), Stp X G0 Hf s0 G H s ∧ ER X Hf G H env σ ∧
  Ws (evSs c st env s) (nxK X G0 Hf s0 G D.nx) (nxK X G0 Hf s0 G D.bk) (nxK X G0 Hf s0 G D.ct) (rtK X G0 Hf s0 G D.rt) (exK X G0 Hf s0 G W)
theorem PS.mono {X : Cx} {st : Stmt} {t t' : TS} (h : PS X st t) (k : ∀ D σ H, t' D σ H → t D σ H) : PS X st t' := ⟨fun pins s σ H D I q => h.run pins s σ H D I (k D σ H q)⟩
theorem PSs.mono {X : Cx} {st : List Stmt} {t t' : TS} (h : PSs X st t) (k : ∀ D σ H, t' D σ H → t D σ H) : PSs X st t' := ⟨fun pins s σ H D I q => h.run pins s σ H D I (k D σ H q)⟩
theorem PS.or {X : Cx} {st : Stmt} {t t' : TS} (h : PS X st t) (h' : PS X st t') : PS X st (fun D σ H => t D σ H ∨ t' D σ H) := ⟨fun pins s σ H D I q => q.elim (h.run pins s σ H D I) (h'.run pins s σ H D I)⟩
section
variable {X : Cx} {T : Ct} {c : Cc} {tb : Tab} {N : List Str} {ow : Option Scope} {sc : Scope} {W : WX} {k : Nat}
theorem ss_nil : PSs X [] (semSs T c W []) := PSs.mono pss_nil fun D σ H q => by
  obtain ⟨G0, Hf, s0, G, s, env, t, er, q⟩ := q
  exact q σ G H (Sub.refl _) t er
theorem ss_cons {st : Stmt} {rest : List Stmt} {a : S} {r : List S} (h : PS X st (semS T c W a)) (h' : PSs X rest (semSs T c W r)) : PSs X (st :: rest) (semSs T c W (a :: r)) := by
  refine PSs.mono (pss_cons h h') fun D σ H q => ?_
  obtain ⟨G0, Hf, s0, G, s, env, t, er, q⟩ := q
  rw [evSs, Ws.seq] at q
  refine ⟨G0, Hf, s0, G, s, env, t, er, q.imp (fun e s1 z σ' G' H' u t' er' => ?_) (fun _ _ z => z) (fun _ _ z => z) (fun _ _ z => z) fun _ _ _ z => z⟩
  exact ⟨G0, Hf, s0, G', s1, e, t', er', z.imp (fun _ _ y => y.wide u) (fun _ _ y => y.wide u) (fun _ _ y => y.wide u) (fun _ _ y => y.wide u) fun _ _ _ y => y.wide u⟩
theorem st_pass {pos : Pos} : PS X (.Pass pos) (semS T c W .pas) := PS.mono ps_pass fun D σ H q => by
  obtain ⟨G0, Hf, s0, G, s, env, t, er, q⟩ := q
  exact q σ G H (Sub.refl _) t er
theorem st_doc {x j pos pos'} : PS X (.Expr (.Constant (.str x) j pos) pos') (semS T c W .pas) := PS.mono ps_doc fun D σ H q => by
  obtain ⟨G0, Hf, s0, G, s, env, t, er, q⟩ := q
  exact q σ G H (Sub.refl _) t er
theorem st_brk {pos : Pos} : PS X (.Break pos) (semS T c W .brk) := PS.mono ps_break fun D σ H q => by
  obtain ⟨G0, Hf, s0, G, s, env, t, er, q⟩ := q
  exact q σ G H (Sub.refl _) t er
theorem st_cnt {pos : Pos} : PS X (.Continue pos) (semS T c W .cnt) := PS.mono ps_continue fun D σ H q => by
  obtain ⟨G0, Hf, s0, G, s, env, t, er, q⟩ := q
  exact q σ G H (Sub.refl _) t er
theorem st_ret0 {pos : Pos} : PS X (.Return none pos) (semS T c W .ret0) := PS.mono ps_retN fun D σ H q => by
  obtain ⟨G0, Hf, s0, G, s, env, t, er, q⟩ := q
  exact q .non G H (Sub.refl _) t RD.non
/-- one part of a statement -/
theorem semS.one {a : E} {f : VD → Sg → Prop} {R : V → Hp → Prop} {G0 Hf G H : Hp} {s0 s : Sg} {env : Env} {σ : L2.St} (t : Stp T G0 Hf s0 G H s) (er : ER T Hf G H env σ) (h : Wp (evE c a env s) f (fun x s' => exK T G0 Hf s0 G W x env s'))
    (k : ∀ x u G1 H1 s1, Stp T G H s G1 H1 s1 → RV T Hf H G1 H1 x u → f x s1 → R u H1) : semE T c W a σ H R :=
  semE.one t er (h.imp (fun _ _ z => z) fun x s' z => z.w t er) k
theorem st_ex {e : Expr} {ee : E} {pos : Pos} (h : PE X e (semE T c W ee)) (hs : swapsWith e none pos.line X.env = pure false) : PS X (.Expr e pos) (semS T c W (.ex ee)) := PS.mono (ps_expr h hs) fun D σ H q => by
  obtain ⟨G0, Hf, s0, G, s, env, t, er, q⟩ := q
  rw [evS, Ws.sr] at q
  refine semS.one t er q fun x u G1 H1 s1 t1 r z => ?_
  exact z σ G1 H1 t1.g (t.trans t1) (er.step t1)
theorem RV.leaves {X : Ct} {Hf H0 G H : Hp} {x : VD} {v : V} (r : RV X Hf H0 G H x v) (h : ∀ a, H0 a = none → Hf a = none) : RV X Hf Hf G H (leaves x) v := by
  obtain ⟨k, d⟩ := x
  cases k with
  | sh => exact r
  | lo =>
    obtain ⟨a, xs, ds, e1, e2, e3, e4, e5, e6, e7, e8⟩ := r
    exact ⟨a, xs, ds, e1, e2, e3, e4, e5, e6, e7, fun _ => e7⟩
  | fr =>
    obtain ⟨a, xs, ds, e1, e2, e3, e4, e5, e6, e7, e8⟩ := r
    exact ⟨a, xs, ds, e1, e2, e3, e4, e5, e6, e7, fun _ => e7⟩
theorem st_ret {e : Expr} {ee : E} {pos : Pos} (h : PE X e (semE T c W ee)) : PS X (.Return (some e) pos) (semS T c W (.ret ee)) := PS.mono (ps_ret h) fun D σ H q => by
  obtain ⟨G0, Hf, s0, G, s, env, t, er, q⟩ := q
  rw [evS, Ws.sr] at q
  refine semS.one t er q fun x u G1 H1 s1 t1 r z => ?_
  exact z u G1 H1 t1.g (t.trans t1) (r.leaves t.n)
theorem st_ifs {e : Expr} {a b : List Stmt} {ee : E} {ea eb : List S} {pos : Pos} (h : PT X e (semT T c W ee)) (ha : PSs X a (semSs T c W ea)) (hb : PSs X b (semSs T c W eb)) : PS X (.If e a b pos) (semS T c W (.ifs ee ea eb)) := PS.mono (ps_if h ha hb) fun D σ H q => by
  obtain ⟨G0, Hf, s0, G, s, env, t, er, q⟩ := q
  rw [evS, Ws.sr] at q
  refine semT.one t er (q.imp (fun _ _ z => z) fun x s' z => z.w t er) fun b G1 H1 s1 t1 z => ?_
  cases b with
  | true => exact ⟨G0, Hf, s0, G1, s1, env, t.trans t1, er.step t1, Ws.imp z (fun _ _ y => y.wide t1.g) (fun _ _ y => y.wide t1.g) (fun _ _ y => y.wide t1.g) (fun _ _ y => y.wide t1.g) fun _ _ _ y => y.wide t1.g⟩
  | false => exact ⟨G0, Hf, s0, G1, s1, env, t.trans t1, er.step t1, Ws.imp z (fun _ _ y => y.wide t1.g) (fun _ _ y => y.wide t1.g) (fun _ _ y => y.wide t1.g) (fun _ _ y => y.wide t1.g) fun _ _ _ y => y.wide t1.g⟩
/-- names that own no more -/
theorem Stp.unown {X : Ct} {Hf : Hp} {G0 : Hp} {s0 s : Sg} {H : Hp} {σ : L2.St} : ∀ {is : List Nat} {G : Hp} {env : Env}, Stp X G0 Hf s0 G H s → ER X Hf G H env σ → ∃ G', Sub G G' ∧ Stp X G0 Hf s0 G' H s ∧ ER X Hf G' H (unown env is) σ
  | [], G, env, t, er => ⟨G, Sub.refl _, t, er⟩
  | i :: r, G, env, t, er => by
    rw [Ev.unown]
    split
    · rename_i d e
      obtain ⟨a, xs, ds, e1, e2, e3, e4, e5, e6, e7⟩ := er.ow i d e
      have t1 : Stp X G0 Hf s0 (upd G a (.lst xs)) H s := t.ground e3 e4 e5 e7
      have li : i < env.length := (List.getElem?_eq_some_iff.mp e).1
      have er1 : ER X Hf (upd G a (.lst xs)) H (env.set i (some (false, d))) σ := by
        refine ⟨by rw [List.length_set, er.len], fun j d' h => ?_, fun j d' h => ?_, fun j l d1 d2 b h1 h2 h3 h4 => ?_⟩
        · by_cases hj : i = j
          · subst hj
            rw [List.getElem?_set_self li] at h
            cases h
            exact ⟨_, e1, e2 ▸ .lst upd_same (e6.mono (Sub.upd e4))⟩
          · rw [List.getElem?_set_ne hj] at h
            obtain ⟨v, h1, h2⟩ := er.sh j d' h
            exact ⟨v, h1, h2.mono (Sub.upd e4)⟩
        · by_cases hj : i = j
          · subst hj
            rw [List.getElem?_set_self li] at h
            cases h
          · rw [List.getElem?_set_ne hj] at h
            obtain ⟨b, ys, es, f1, f2, f3, f4, f5, f6, f7⟩ := er.ow j d' h
            refine ⟨b, ys, es, f1, f2, f3, ?_, f5, f6.mono (Sub.upd e4), f7⟩
            have nb : b ≠ a := fun z => hj (er.ne i j d d' a e h e1 (z ▸ f1))
            rw [upd_ne nb]; exact f4
        · have aux : ∀ {m : Nat} {z : D}, (env.set i (some (false, d)))[m]? = some (some (true, z)) → i ≠ m := fun {m z} h q => by
            subst q
            rw [List.getElem?_set_self li] at h
            cases h
          have n1 := aux h1
          have n2 := aux h2
          rw [List.getElem?_set_ne n1] at h1
          rw [List.getElem?_set_ne n2] at h2
          exact er.ne j l d1 d2 b h1 h2 h3 h4
      obtain ⟨G2, g2, t2, er2⟩ := Stp.unown (is := r) t1 er1
      exact ⟨G2, (Sub.upd e4).trans g2, t2, er2⟩
    · exact Stp.unown t er
theorem st_lk {st : Stmt} {a : S} {is : List Nat} (h : PS X st (semS T c W a)) : PS X st (semS T c W (.lk is a)) := PS.mono h fun D σ H q => by
  obtain ⟨G0, Hf, s0, G, s, env, t, er, q⟩ := q
  obtain ⟨G', g, t', er'⟩ := Stp.unown (is := is) t er
  exact ⟨G0, Hf, s0, G', s, _, t', er', Ws.imp q (fun _ _ y => y.wide g) (fun _ _ y => y.wide g) (fun _ _ y => y.wide g) (fun _ _ y => y.wide g) fun _ _ _ y => y.wide g⟩
end
end Ev
set_option Elab.async false
set_option linter.all false
set_option maxRecDepth 100000
set_option maxHeartbeats 4000000
namespace Ev
open PySem PySem.Spec PyProof.Rows L2
/-! ### stores -/
theorem set_own {env : Env} {i j : Nat} {y : Bool × D} {z : D} {b : Bool} (h : (env.set i (some y))[j]? = some (some (b, z))) : (i = j ∧ y = (b, z) ∧ i < env.length) ∨ (i ≠ j ∧ env[j]? = some (some (b, z))) := by
  by_cases hj : i = j
  · subst hj
    have li : i < env.length := by
      have := (List.getElem?_eq_some_iff.mp h).1
      rwa [List.length_set] at this
    rw [List.getElem?_set_self li] at h
    cases h
    exact .inl ⟨rfl, rfl, li⟩
  · rw [List.getElem?_set_ne hj] at h
    exact .inr ⟨hj, h⟩
theorem ER.putO {X : Ct} {Hf G H : Hp} {env : Env} {σ : L2.St} (er : ER X Hf G H env σ) {a : Addr} {xs : List V} {ds : List D} (h : H a = some (.lst xs)) (g : G a = none) (na : X.ad ≠ some a) (r : RDs X.K X.ad G xs ds) (hf : Hf a = none) (hn : ∀ (j : Nat) e, env[j]? = some (some (true, e)) → σ[j]? ≠ some (some (.ref a))) (i : Nat) :
    ER X Hf G H (env.set i (some (true, .lst ds))) (σ.set i (some (.ref a))) where
  len := by rw [List.length_set, List.length_set, er.len]
  sh := fun j d q => by
    rcases set_own q with ⟨_, q, _⟩ | ⟨n, q⟩
    · cases q
    · rw [List.getElem?_set_ne n]; exact er.sh j d q
  ow := fun j d q => by
    rcases set_own q with ⟨e, q', l⟩ | ⟨n, q⟩
    · subst e
      cases q'
      exact ⟨a, xs, ds, by rw [List.getElem?_set_self (by rw [er.len]; exact l)], rfl, h, g, na, r, hf⟩
    · rw [List.getElem?_set_ne n]; exact er.ow j d q
  ne := fun j l d e b q1 q2 q3 q4 => by
    rcases set_own q1 with ⟨e1, _, l1⟩ | ⟨n1, q1⟩
    · rcases set_own q2 with ⟨e2, _, l2⟩ | ⟨n2, q2⟩
      · rw [← e1, ← e2]
      · subst e1
        rw [List.getElem?_set_self (by rw [er.len]; exact l1)] at q3
        rw [List.getElem?_set_ne n2] at q4
        cases q3
        exact absurd q4 (hn l e q2)
    · rw [List.getElem?_set_ne n1] at q3
      rcases set_own q2 with ⟨e2, _, l2⟩ | ⟨n2, q2⟩
      · subst e2
        rw [List.getElem?_set_self (by rw [er.len]; exact l2)] at q4
        cases q4
        exact absurd q3 (hn j d q1)
      · rw [List.getElem?_set_ne n2] at q4
        exact er.ne j l d e b q1 q2 q3 q4
def setAll (σ : L2.St) : List Nat → List V → L2.St
  | i :: is, v :: vs => setAll (σ.set i (some v)) is vs
  | _, _ => σ
theorem stores {X : Ct} {Hf G H : Hp} : ∀ {is : List Nat} {xs : List VD} {vs : List V} {env e1 : Env} {σ : L2.St} {H0 : Hp}, ER X Hf G H env σ → RVs X Hf H0 G H xs vs → (∀ (j : Nat) e a, env[j]? = some (some (true, e)) → σ[j]? = some (some (.ref a)) → H0 a ≠ none) → asgVs (is.map .nm) xs env = some e1 → ER X Hf G H e1 (setAll σ is vs)
  | [], [], [], env, e1, σ, H0, er, r, hn, e => by cases e; exact er
  | [], [], _ :: _, env, e1, σ, H0, er, r, hn, e => r.elim
  | [], _ :: _, _, env, e1, σ, H0, er, r, hn, e => by cases e
  | i :: is, [], _, env, e1, σ, H0, er, r, hn, e => by cases e
  | i :: is, x :: xs, [], env, e1, σ, H0, er, r, hn, e => r.elim
  | i :: is, x :: xs, v :: vs, env, e1, σ, H0, er, ⟨rx, H1, m1, m2, r⟩, hn, e => by
    have e : (asgV (.nm i) x env).bind (fun e => asgVs (is.map .nm) xs e) = some e1 := e
    obtain ⟨e2, ea, eb⟩ := Option.bind_eq_some_iff.mp e
    obtain ⟨kx, dx⟩ := x
    cases kx with
    | lo => cases ea
    | sh =>
      cases ea
      refine stores (is := is) (er.put rx i) r (fun j d a q1 q2 => ?_) eb
      rcases set_own q1 with ⟨_, q, _⟩ | ⟨n, q⟩
      · cases q
      · rw [List.getElem?_set_ne n] at q2
        exact fun z => hn j d a q q2 (m1 a z)
    | fr =>
      obtain ⟨a, ys, ds, k1, k2, k3, k4, k5, k6, k7, k8⟩ := rx
      cases k1
      cases k2
      cases ea
      refine stores (is := is) (er.putO k3 k4 k5 k6 k7 (fun j d q1 q2 => hn j d a q1 q2 (k8 rfl)) i) r (fun j d b q1 q2 => ?_) eb
      rcases set_own q1 with ⟨e3, q, l⟩ | ⟨n, q⟩
      · subst e3
        rw [List.getElem?_set_self (by rw [er.len]; exact l)] at q2
        cases q2
        exact m2 a rfl (fun z => Kd.noConfusion z)
      · rw [List.getElem?_set_ne n] at q2
        exact fun z => hn j d b q q2 (m1 b z)
theorem ER.owned {X : Ct} {Hf G H : Hp} {env : Env} {σ : L2.St} (er : ER X Hf G H env σ) (j : Nat) (e : D) (a : Addr) (q1 : env[j]? = some (some (true, e))) (q2 : σ[j]? = some (some (.ref a))) : H a ≠ none := by
  obtain ⟨b, xs, ds, k1, k2, k3, _⟩ := er.ow j e q1
  rw [k1] at q2; cases q2
  rw [k3]; exact fun z => nomatch z
/-- a value that is kept, at the frame's state -/
theorem keepE {X : Ct} {G0 Hf G H G1 H1 : Hp} {s0 s s1 : Sg} {env : Env} {σ : L2.St} {x : VD} {v : V} {d : D} (t : Stp X G0 Hf s0 G H s) (er : ER X Hf G H env σ) (t1 : Stp X G H s G1 H1 s1) (r : RV X Hf H G1 H1 x v) (k : keep x = some d) :
    ∃ G2, Sub G1 G2 ∧ Stp X G H s G2 H1 s1 ∧ Stp X G0 Hf s0 G2 H1 s1 ∧ ER X Hf G2 H1 env σ ∧ RD X.K X.ad G2 v d := by
  obtain ⟨G2, t2, g2, n2, r2, m2⟩ := r.keep t1 k
  exact ⟨G2, g2, t2, t.trans t2, er.step t2, r2⟩
theorem own_upd {X : Ct} {G0 Hf G H : Hp} {s0 s : Sg} {env : Env} {σ : L2.St} (t : Stp X G0 Hf s0 G H s) (er : ER X Hf G H env σ) {i : Nat} {l l' : List D} (ho : env[i]? = some (some (true, .lst l))) {a : Addr} (hs : σ[i]? = some (some (.ref a))) {ys : List V} (r : RDs X.K X.ad G ys l') :
    Stp X G0 Hf s0 G (upd H a (.lst ys)) s ∧ ER X Hf G (upd H a (.lst ys)) (env.set i (some (true, .lst l'))) σ := by
  obtain ⟨b, xs, ds, e1, e2, e3, e4, e5, e6, e7⟩ := er.ow i _ ho
  rw [hs] at e1; cases e1
  have li : i < env.length := (List.getElem?_eq_some_iff.mp ho).1
  refine ⟨t.transD ((t.same.d (D := a)).put e4 e5 _ (by rw [e3]; exact fun z => nomatch z)) e7, ?_, fun j d q => ?_, fun j d q => ?_, fun j m d d' b q1 q2 q3 q4 => ?_⟩
  · rw [List.length_set, er.len]
  · rcases set_own q with ⟨_, q, _⟩ | ⟨n, q⟩
    · cases q
    · exact er.sh j d q
  · rcases set_own q with ⟨e, q', _⟩ | ⟨n, q⟩
    · subst e
      cases q'
      exact ⟨a, ys, l', hs, rfl, upd_same, e4, e5, r, e7⟩
    · obtain ⟨b, zs, es, f1, f2, f3, f4, f5, f6, f7⟩ := er.ow j d q
      have nb : b ≠ a := fun z => n (er.ne i j _ _ a ho q hs (z ▸ f1))
      exact ⟨b, zs, es, f1, f2, by rw [upd_ne nb]; exact f3, f4, f5, f6, f7⟩
  · have aux : ∀ {m : Nat} {z : D}, (env.set i (some (true, .lst l')))[m]? = some (some (true, z)) → ∃ y, env[m]? = some (some (true, y)) := fun {m z} h => by
      rcases set_own h with ⟨e, _, _⟩ | ⟨_, q⟩
      · subst e; exact ⟨_, ho⟩
      · exact ⟨_, q⟩
    obtain ⟨y1, q1⟩ := aux q1
    obtain ⟨y2, q2⟩ := aux q2
    exact er.ne j m y1 y2 b q1 q2 q3 q4
def noComp : Expr → Bool
  | .ListComp _ _ _ _ => false
  | .SetComp _ _ _ _ => false
  | .DictComp _ _ _ _ _ => false
  | _ => true
theorem noComp_ok {e : Expr} (h : noComp e = true) (t : Option Expr) (l : Nat) (env : PySem.Env) : swapsWith e t l env = pure false := by
  cases e <;> first | rfl | cases h
def noTup : Expr → Bool
  | .Tuple _ _ _ => false
  | _ => true
theorem noTup_ok {e t : Expr} (h : noTup e = true) (env : PySem.Env) : swappedStores [t] e env = pure none := by
  cases t <;> cases e <;> first | rfl | cases h
theorem noSwap_tup {e : Expr} {ts : List Expr} {j : Nat} {p : Pos} (l : Nat) (env : PySem.Env) : swapsWithSole [.Tuple ts j p] e l env = pure false := by
  cases e <;> rfl
section
variable {X : Cx} {T : Ct} {c : Cc} {tb : Tab} {N : List Str} {ow : Option Scope} {sc : Scope} {W : WX} {k : Nat}
theorem asg_nm {i : Nat} {ee : E} {D : Ends} {σ : L2.St} {H : Hp} (q : semS T c W (.asg (.nm i) ee) D σ H) : semE T c W ee σ H fun x H1 => gName i x σ H1 D.nx := by
  obtain ⟨G0, Hf, s0, G, s, env, t, er, q⟩ := q
  rw [evS, Ws.sr] at q
  refine semS.one t er q fun x u G1 H1 s1 t1 r z => ?_
  cases e : asgV (.nm i) x env with
  | none => rw [e] at z; exact z.elim
  | some e1 =>
    rw [e] at z
    refine z _ G1 H1 t1.g (t.trans t1) ?_
    have er1 := er.step t1
    exact stores (is := [i]) (xs := [x]) (vs := [u]) (H0 := H) er1 ⟨r, H1, t1.n, (fun a e1 e2 e3 => by
      obtain ⟨kx, dx⟩ := x
      cases kx with
      | sh => exact e2 rfl
      | lo => obtain ⟨b, ys, ds, k1, k2, k3, _⟩ := r; rw [e1] at k1; cases k1; rw [k3] at e3; cases e3
      | fr => obtain ⟨b, ys, ds, k1, k2, k3, _⟩ := r; rw [e1] at k1; cases k1; rw [k3] at e3; cases e3), trivial⟩ (fun j d a q1 q2 => er.owned j d a q1 q2) (by show (asgV (.nm i) x env).bind _ = _; rw [e]; rfl)
theorem st_set (gd : Gq X T c tb N ow sc k) {i : Nat} {x : Str} {e : Expr} {ee : E} {pos pos' : Pos} (hi : eqOS N[i]? x = true) (hl : locB sc x = true) (ho : ownB ow x = true) (hs : swapsWith e (some (.Name x pos')) pos.line X.env = pure false) (he : PE X e (semE T c W ee)) : PS X (.Assign [.Name x pos'] e pos) (semS T c W (.asg (.nm i) ee)) :=
  PS.mono (ps_set (i := i) gd.nd (by rw [gd.hN]; exact eqOS_ok hi) (by rw [gd.hsc]; exact locB_ok hl) he hs (gd.fn x ho)) fun D σ H q => asg_nm q
theorem st_asgT (gd : Gd X T c tb N ow sc W k) {es : List Expr} {j : Nat} {p pos : Pos} {e : Expr} {ee : E} {ts : List Tg} (hw : swappedStores [.Tuple es j p] e X.env = pure none) (he : PE X e (semE T c W ee)) (hg : PG X (.Tuple es j p) (semG T (.tu ts))) : PS X (.Assign [.Tuple es j p] e pos) (semS T c W (.asg (.tu ts) ee)) :=
  PS.mono (ps_asg he hg (noSwap_tup _ _) hw) fun D σ H q => by
    obtain ⟨G0, Hf, s0, G, s, env, t, er, q⟩ := q
    rw [evS, Ws.sr] at q
    refine semS.one t er q fun x u G1 H1 s1 t1 r z => ?_
    cases e : asgV (.tu ts) x env with
    | none => rw [e] at z; exact z.elim
    | some e1 =>
      rw [e] at z
      obtain ⟨kx, dx⟩ := x
      have kk : keep (kx, dx) = some dx ∧ asgD (.tu ts) dx env = some e1 := by
        cases kx with
        | lo => cases e
        | sh => exact ⟨rfl, e⟩
        | fr => exact ⟨rfl, e⟩
      obtain ⟨G2, g2, t2, t3, er2, r2⟩ := keepE t er t1 r kk.1
      exact ⟨Hf, G2, env, dx, e1, er2, r2, t3.s, kk.2, fun σ' gt => z σ' G2 H1 t2.g t3 gt.er⟩
theorem tPar_all {is : List Nat} {ees : List E} {D : Ends} {σ : L2.St} {H : Hp} (q : semS T c W (.par (is.map .nm) ees) D σ H) : semA T c W ees σ H fun vs H1 => vs.length = is.length ∧ D.nx (setAll σ is vs) H1 := by
  obtain ⟨G0, Hf, s0, G, s, env, t, er, q⟩ := q
  rw [evS, Ws.sr] at q
  refine semA.one t er (q.imp (fun _ _ z => z) fun x s' z => z.w t er) fun xs us G1 H1 s1 t1 rs z => ?_
  cases e : asgVs (is.map .nm) xs env with
  | none => rw [e] at z; exact z.elim
  | some e1 =>
    rw [e] at z
    have ln : ∀ {is : List Nat} {xs : List VD} {env e1 : Env}, asgVs (is.map .nm) xs env = some e1 → xs.length = is.length := fun {is} => by
      induction is with
      | nil => intro xs env e1 h; cases xs with
        | nil => rfl
        | cons _ _ => cases h
      | cons i is ih => intro xs env e1 h; cases xs with
        | nil => cases h
        | cons x xs =>
          have h : (asgV (.nm i) x env).bind (fun e => asgVs (is.map .nm) xs e) = some e1 := h
          obtain ⟨e2, _, h⟩ := Option.bind_eq_some_iff.mp h
          rw [List.length_cons, List.length_cons, ih h]
    exact ⟨by rw [rs.length, ln e], z _ G1 H1 t1.g (t.trans t1) (stores (er.step t1) rs (fun j d a q1 q2 => er.owned j d a q1 q2) e)⟩
theorem st_par2 (gd : Gd X T c tb N ow sc W k) {i j : Nat} {x y : Str} {a b : Expr} {ees : List E} {px py pt pos pt2 : Pos} {kt k2 : Nat} (hi : eqOS N[i]? x = true) (hj : eqOS N[j]? y = true) (hij : i ≠ j) (hx : sc.names.lookup x = some .local) (hy : sc.names.lookup y = some .local)
    (hw : swappedStores [.Tuple [.Name x px, .Name y py] kt pt] (.Tuple [a, b] k2 pt2) X.env = pure (some [x, y])) (ha : PA X [a, b] (semA T c W ees)) : PS X (.Assign [.Tuple [.Name x px, .Name y py] kt pt] (.Tuple [a, b] k2 pt2) pos) (semS T c W (.par [.nm i, .nm j] ees)) :=
  PS.mono (ps_par (i := i) (j := j) gd.calm gd.nd (by rw [gd.hN]; exact eqOS_ok hi) (by rw [gd.hN]; exact eqOS_ok hj) hij (by rw [gd.hsc]; exact hx) (by rw [gd.hsc]; exact hy) ha hw (noSwap_tup _ _)) fun D σ H q => by
    have z := tPar_all (is := [i, j]) q
    obtain ⟨G0, Hf, s0, G, s, env, t, er, z⟩ := z
    refine ⟨G0, Hf, s0, G, s, env, t, er, z.imp (fun xs s1 z vs G1 H1 t1 r1 => ?_) fun _ _ z => z⟩
    obtain ⟨l, z⟩ := z vs G1 H1 t1 r1
    match vs, l, z with
    | [v, w], _, z => exact ⟨v, w, rfl, z⟩
theorem st_par3 (gd : Gd X T c tb N ow sc W k) {i j l : Nat} {x y w : Str} {a b d : Expr} {ees : List E} {px py pw pt pos pt2 : Pos} {kt k2 : Nat} (hi : eqOS N[i]? x = true) (hj : eqOS N[j]? y = true) (hk : eqOS N[l]? w = true) (hij : i ≠ j) (hil : i ≠ l) (hjl : j ≠ l) (hx : sc.names.lookup x = some .local) (hy : sc.names.lookup y = some .local) (hz : sc.names.lookup w = some .local)
    (hw : swappedStores [.Tuple [.Name x px, .Name y py, .Name w pw] kt pt] (.Tuple [a, b, d] k2 pt2) X.env = pure (some [x, y, w])) (ha : PA X [a, b, d] (semA T c W ees)) : PS X (.Assign [.Tuple [.Name x px, .Name y py, .Name w pw] kt pt] (.Tuple [a, b, d] k2 pt2) pos) (semS T c W (.par [.nm i, .nm j, .nm l] ees)) :=
  PS.mono (ps_par3 (i := i) (j := j) (l := l) gd.calm gd.nd (by rw [gd.hN]; exact eqOS_ok hi) (by rw [gd.hN]; exact eqOS_ok hj) (by rw [gd.hN]; exact eqOS_ok hk) hij hil hjl (by rw [gd.hsc]; exact hx) (by rw [gd.hsc]; exact hy) (by rw [gd.hsc]; exact hz) ha hw (noSwap_tup _ _)) fun D σ H q => by
    have z := tPar_all (is := [i, j, l]) q
    obtain ⟨G0, Hf, s0, G, s, env, t, er, z⟩ := z
    refine ⟨G0, Hf, s0, G, s, env, t, er, z.imp (fun xs s1 z vs G1 H1 t1 r1 => ?_) fun _ _ z => z⟩
    obtain ⟨l, z⟩ := z vs G1 H1 t1 r1
    match vs, l, z with
    | [v, w, u], _, z => exact ⟨v, w, u, rfl, z⟩
end
end Ev
set_option Elab.async false
set_option linter.all false
set_option maxRecDepth 100000
set_option maxHeartbeats 4000000
namespace Ev
open PySem PySem.Spec PyProof.Rows L2
section
variable {X : Cx} {T : Ct} {c : Cc} {tb : Tab} {N : List Str} {ow : Option Scope} {sc : Scope} {W : WX} {k : Nat}
/-! ### for, while -/
theorem st_for {tg it : Expr} {body : List Stmt} {pos : Pos} {tgI : Tg} {ik : IK} {ies : List E} {b : List S} (gd : Gd X T c tb N ow sc W k) (hi : PI X tg it (semI T c W ik ies)) (hg : PG X tg (semG T tgI)) (hb : PSs X body (semSs T c W b)) (hs : ∀ x, foldedSetIterable it X.env x = pure x) : PS X (.For tg it body [] pos) (semS T c W (.for_ tgI ik ies b)) :=
  PS.mono (ps_for gd.pass gd.calm hi hg hb hs) fun D σ H q => by
    obtain ⟨G0, Hf, s0, G, s, env, t, er, q⟩ := q
    rw [evS, Ws.sr] at q
    refine ⟨G0, Hf, s0, G, s, env, t, er, q.imp (fun xs s1 q1 => ?_) fun x s' z => z.w t er⟩
    rw [Ws.sr] at q1
    obtain ⟨items, e1, q1⟩ := Wp.lift q1
    obtain ⟨m1, e2⟩ := itW_ok e1
    refine ⟨items, by unfold itV; rw [m1]; exact e2, fun J G1 H1 src t1 st gr wk => ?_⟩
    let Z : Nat → L2.St → Hp → Prop := fun i σ' H' => ∃ (G2 : Hp) (s2 : Sg) (env2 : Env), Sub G1 G2 ∧ Stp T G0 Hf s0 G2 H' s2 ∧ ER T Hf G2 H' env2 σ' ∧
      Ws (forL (asgD tgI) (evSs c b) (items.drop i) env2 s2) (nxK T G0 Hf s0 G D.nx) (nxK T G0 Hf s0 G D.bk) (nxK T G0 Hf s0 G D.ct) (rtK T G0 Hf s0 G D.rt) (exK T G0 Hf s0 G W)
    refine ⟨fun i m σ' H' => m = items.length - i ∧ i ≤ items.length ∧ Z i σ' H', ⟨_, rfl, Nat.zero_le _, G1, s1, env, Sub.refl _, t.trans t1, er.step t1, q1⟩, ?_⟩
    rintro i m σ2 H2 ⟨rfl, hi, G2, s2, env2, g2, t2, er2, q2⟩
    by_cases lt : i < items.length
    · have hsrc := gr m1 H2 (g2.trans t2.s)
      refine .inr ⟨wk.go i H2 hsrc lt, Z (i + 1), fun σ' H' z => ⟨_, by omega, rfl, lt, z⟩, fun x H' y => ?_⟩
      have hd : items[i]? = some items[i] := List.getElem?_eq_getElem lt
      obtain ⟨G3, t3, r3⟩ := (wk.yld i H2 x H' _ hsrc hd y).step t2 g2
      rw [List.drop_eq_getElem_cons lt, forL] at q2
      cases e : asgD tgI items[i] env2 with
      | none => rw [e] at q2; exact q2.elim
      | some e3 =>
        rw [e] at q2
        refine ⟨Hf, G3, env2, _, e3, er2.step t3, r3, t3.s, e, fun σ3 gt => ?_⟩
        have g3 : Sub G G3 := (t1.g.trans g2).trans t3.g
        refine ⟨G0, Hf, s0, G3, s2, e3, t2.trans t3, gt.er, ?_⟩
        have q3 : Ws (match evSs c b e3 s2 with
          | .nx e2 s2 => forL (asgD tgI) (evSs c b) (items.drop (i + 1)) e2 s2
          | .ct e2 s2 => forL (asgD tgI) (evSs c b) (items.drop (i + 1)) e2 s2
          | .bk e2 s2 => .nx e2 s2
          | .rt x s2 => .rt x s2
          | .ex x e2 s2 => .ex x e2 s2
          | .stk => .stk) (nxK T G0 Hf s0 G D.nx) (nxK T G0 Hf s0 G D.bk) (nxK T G0 Hf s0 G D.ct) (rtK T G0 Hf s0 G D.rt) (exK T G0 Hf s0 G W) := q2
        cases e4 : evSs c b e3 s2 with
        | nx e5 s5 =>
          rw [e4] at q3
          exact fun σ' G' H' u t' er' => ⟨G', s5, e5, (g2.trans t3.g).trans u, t', er', q3⟩
        | ct e5 s5 =>
          rw [e4] at q3
          exact fun σ' G' H' u t' er' => ⟨G', s5, e5, (g2.trans t3.g).trans u, t', er', q3⟩
        | bk e5 s5 =>
          rw [e4] at q3
          exact nxK.wide (P := D.nx) q3 g3
        | rt x5 s5 =>
          rw [e4] at q3
          exact rtK.wide q3 g3
        | ex x5 e5 s5 =>
          rw [e4] at q3
          exact exK.wide q3 g3
        | stk => rw [e4] at q3; exact q3.elim
    · have e : i = items.length := by omega
      subst e
      rw [List.drop_length] at q2
      refine .inl ⟨wk.stop H2 (gr m1 H2 (g2.trans t2.s)), ?_⟩
      exact q2 σ2 G2 H2 (t1.g.trans g2) t2 er2
theorem st_whl {e : Expr} {body : List Stmt} {pos : Pos} {ee : E} {b : List S} (gd : Gd X T c tb N ow sc W k) (hc : PT X e (semT T c W ee)) (hb : PSs X body (semSs T c W b)) : PS X (.While e body [] pos) (semS T c W (.whl ee b)) :=
  PS.mono (ps_while gd.pass hc hb) fun D σ H q => by
    obtain ⟨G0, Hf, s0, G, s, env, t, er, q⟩ := q
    rw [evS] at q
    let Z : Nat → L2.St → Hp → Prop := fun m σ' H' => ∃ (G2 : Hp) (s2 : Sg) (env2 : Env), Sub G G2 ∧ Stp T G0 Hf s0 G2 H' s2 ∧ ER T Hf G2 H' env2 σ' ∧
      Ws (whlL (evT c ee) (evSs c b) m env2 s2) (nxK T G0 Hf s0 G D.nx) (nxK T G0 Hf s0 G D.bk) (nxK T G0 Hf s0 G D.ct) (rtK T G0 Hf s0 G D.rt) (exK T G0 Hf s0 G W)
    refine ⟨Z, ⟨c.fuel, G, s, env, Sub.refl _, t, er, q⟩, ?_⟩
    rintro m σ2 H2 ⟨G2, s2, env2, g2, t2, er2, q2⟩
    cases m with
    | zero => exact q2.elim
    | succ m =>
      rw [whlL, Ws.sr] at q2
      refine ⟨G0, Hf, s0, G2, s2, env2, t2, er2, q2.imp (fun v s3 q3 G3 H3 t3 => ?_) fun x s' z => (exK.wide z g2).w t2 er2⟩
      cases v with
      | false =>
        show D.nx σ2 H3
        exact q3 σ2 G3 H3 (g2.trans t3.g) (t2.trans t3) (er2.step t3)
      | true =>
        have q3 : Ws (match evSs c b env2 s3 with
          | .nx e2 s2 => whlL (evT c ee) (evSs c b) m e2 s2
          | .ct e2 s2 => whlL (evT c ee) (evSs c b) m e2 s2
          | .bk e2 s2 => .nx e2 s2
          | .rt x s2 => .rt x s2
          | .ex x e2 s2 => .ex x e2 s2
          | .stk => .stk) (nxK T G0 Hf s0 G D.nx) (nxK T G0 Hf s0 G D.bk) (nxK T G0 Hf s0 G D.ct) (rtK T G0 Hf s0 G D.rt) (exK T G0 Hf s0 G W) := q3
        have g3 : Sub G G3 := g2.trans t3.g
        show ∃ _, _
        refine ⟨Z m, fun σ' H' z => ⟨m, Nat.lt_succ_self m, z⟩, G0, Hf, s0, G3, s3, env2, t2.trans t3, er2.step t3, ?_⟩
        cases e4 : evSs c b env2 s3 with
        | nx e5 s5 =>
          rw [e4] at q3
          exact fun σ' G' H' u t' er' => ⟨G', s5, e5, g3.trans u, t', er', q3⟩
        | ct e5 s5 =>
          rw [e4] at q3
          exact fun σ' G' H' u t' er' => ⟨G', s5, e5, g3.trans u, t', er', q3⟩
        | bk e5 s5 =>
          rw [e4] at q3
          exact nxK.wide (P := D.nx) q3 g3
        | rt x5 s5 =>
          rw [e4] at q3
          exact rtK.wide q3 g3
        | ex x5 e5 s5 =>
          rw [e4] at q3
          exact exK.wide q3 g3
        | stk => rw [e4] at q3; exact q3.elim
end
end Ev
set_option Elab.async false
set_option linter.all false
set_option maxRecDepth 100000
set_option maxHeartbeats 4000000
namespace Ev
open PySem PySem.Spec PyProof.Rows L2
def plainBase : Expr → Bool
  | .Call _ _ _ _ => false
  | _ => true
theorem plainBase_ok {o : Expr} (h : plainBase o = true) (n : Str) (env : PySem.Env) : attributeBase o n env (eval o env) = eval o env := by
  cases o <;> first | rfl | cases h
section
variable {X : Cx} {T : Ct} {c : Cc} {tb : Tab} {N : List Str} {ow : Option Scope} {sc : Scope} {W : WX} {k : Nat}
/-! ### name op= value -/
theorem flatAt_ok {env : Env} {i : Nat} (h : flatAt env i = true) : ∃ a, env[i]? = some (some (false, a)) ∧ flatD a = true := by
  unfold flatAt at h
  split at h
  · exact ⟨_, by assumption, h⟩
  · cases h
def augOp : Operator → Option Op
  | .Add => some .add
  | .Sub => some .sub
  | _ => none
theorem st_aug (gd : Gd X T c tb N ow sc W k) {i : Nat} {x : Str} {e : Expr} {ee : E} {p : Operator} {o : Op} {pos pos' : Pos} (hp : augOp p = some o) (hi : eqOS N[i]? x = true) (hl : locB sc x = true) (ho : ownB ow x = true) (he : PE X e (semE T c W ee)) : PS X (.AugAssign (.Name x pos') p e pos) (semS T c W (.aug i o ee)) := by
  have go : ∀ D σ H (ti : TIp), (∀ (a y d : Ev.D) (u v : V) (G H : Hp) (Q : VK), flatD a = true → opD o a y = some (.sh, d) → RD T.K T.ad G u a → RD T.K T.ad H v y → (∀ w, RD T.K T.ad G w d → Q w H) → ti u v H Q) → semS T c W (.aug i o ee) D σ H → tAug i (semE T c W ee) ti D σ H := fun D σ H ti hti q => by
    obtain ⟨G0, Hf, s0, G, s, env, t, er, q⟩ := q
    rw [evS] at q
    split at q
    · rename_i hf
      obtain ⟨a, e1, fa⟩ := flatAt_ok hf
      obtain ⟨u, h1, h2⟩ := er.sh i a e1
      rw [Ws.sr] at q
      refine ⟨u, h1, semS.one t er q fun y v G1 H1 s1 t1 r z => ?_⟩
      cases e2 : augV i o y env with
      | none => rw [e2] at z; exact z.elim
      | some e3 =>
        rw [e2] at z
        unfold augV at e2
        rw [e1] at e2
        have e2 : (if flatD a = true then (opD o a y.2).bind fun r => match r with
          | (.sh, d) => some (env.set i (some (false, d)))
          | _ => none else none) = some e3 := e2
        rw [if_pos fa] at e2
        obtain ⟨⟨kr, d⟩, e4, e5⟩ := Option.bind_eq_some_iff.mp e2
        cases kr with
        | sh =>
          cases e5
          refine hti a y.2 d u v G1 H1 _ fa e4 (h2.mono t1.g) (r.any t1.s) fun w rw_ => ?_
          exact z _ G1 H1 t1.g (t.trans t1) ((er.step t1).put rw_ i)
        | lo => cases e5
        | fr => cases e5
    · exact q.elim
  have hl' := locB_ok hl
  have hi' : X.N[i]? = some x := by rw [gd.hN]; exact eqOS_ok hi
  have hx : Loc X.env.scope x := by rw [gd.hsc]; exact hl'
  cases p with
  | Add =>
    cases hp
    have po : PIp X .Add (fun x y H Q => ipI (fun i j => i + j) x y H Q ∨ ∃ i j, x = .str i ∧ y = .str j ∧ i.length + j.length ≤ sizeLine ∧ Q (.str (i ++ j)) H) := fun pins s σ H x y v u Q I r1 r2 h => h.elim (ip_add pins s σ H x y v u Q I r1 r2) (iop_add_str pins s σ H x y v u Q I r1 r2)
    refine PS.mono (ps_aug gd.nd hi' hx he po (gd.fn x ho)) fun D σ H q => go D σ H _ (fun a y d u v G H Q fa e4 ru rv hq => ?_) q
    cases a with
    | int m => cases y with
      | int n => cases ru; cases rv; cases e4; exact .inl ⟨_, _, rfl, rfl, hq _ (.int _)⟩
      | _ => cases e4
    | str m => cases y with
      | str n =>
        cases ru with
        | str _ h1 => cases rv with
          | str _ h2 =>
            have e5 : (if m.length + n.length ≤ sizeLine then some (Kd.sh, Ev.D.str (m ++ n)) else none) = some (Kd.sh, d) := e4
            split at e5
            · rename_i hz
              cases e5
              exact .inr ⟨_, _, rfl, rfl, hz, hq _ (.str _ (strOk_app h1 h2))⟩
            · cases e5
      | _ => cases e4
    | _ => first | (cases fa; done) | (cases y <;> cases e4)
  | Sub =>
    cases hp
    refine PS.mono (ps_aug gd.nd hi' hx he ip_sub (gd.fn x ho)) fun D σ H q => go D σ H _ (fun a y d u v G H Q fa e4 ru rv hq => ?_) q
    cases a with
    | int m => cases y with
      | int n => cases ru; cases rv; cases e4; exact ⟨_, _, rfl, rfl, hq _ (.int _)⟩
      | _ => cases e4
    | _ => first | (cases fa; done) | (cases y <;> cases e4)
  | _ => cases hp
/-! ### name[i] = value -/
theorem Rs.at_ {X : Ct} {s : Sg} {G H : Hp} (r : Rs X s G H) {a : Addr} (e : X.ad = some a) : ∃ d, s = some d ∧ G a = none ∧ H a = some (.lst [.ref X.cd, .int d.p, .int d.r, .int d.s]) ∧ G X.cd = some (.lst (d.c.map V.int)) := by
  unfold Rs at r
  rw [e] at r
  cases s with
  | none => exact r.elim
  | some d => exact ⟨d, rfl, r⟩
/-- the draw is turned -/
theorem Stp.turn {X : Ct} {G0 H0 G H : Hp} {s0 : Sg} {d d' : Drw} {a : Addr} (t : Stp X G0 H0 s0 G H (some d)) (e : X.ad = some a) (hc : d'.c = d.c) : Stp X G0 H0 s0 G (upd H a (.lst [.ref X.cd, .int d'.p, .int d'.r, .int d'.s])) (some d') where
  g := t.g
  h := fun b o z n => by
    have nb : b ≠ a := fun q => n (by rw [e, q])
    rw [upd_ne nb]; exact t.h b o z n
  n := fun b z => t.n b (by
    by_cases q : b = a
    · subst q; rw [upd_same] at z; cases z
    · rw [upd_ne q] at z; exact z)
  f := t.f
  s := fun b u z => by
    have nb : b ≠ a := fun q => by rw [q, (t.r.ne e).1] at z; cases z
    rw [upd_ne nb]; exact t.s b u z
  r := by
    obtain ⟨d2, e2, h1, h2, h3⟩ := t.r.at_ e
    cases e2
    unfold Rs
    rw [e]
    exact ⟨h1, upd_same, by rw [hc]; exact h3⟩
theorem st_setx (gd : Gd X T c tb N ow sc W k) {i : Nat} {x : Str} {a e : Expr} {ea ee : E} {px ps pos : Pos} (hi : eqOS N[i]? x = true) (hv : visB sc x = true) (hn : nameB x = true) (hs : noSlice a = true) (hc : noComp e = true) (ht : noTup e = true) (ha : PE X a (semE T c W ea)) (he : PE X e (semE T c W ee)) :
    PS X (.Assign [.Subscript (.Name x px) a ps] e pos) (semS T c W (.set i ea ee)) := by
  obtain ⟨n1, n2, _⟩ := nameB_ok hn
  refine PS.mono (ps_asg he (pg_sub (pe_var (i := i) (by rw [gd.hN]; exact eqOS_ok hi) (by rw [gd.hsc]; exact visB_ok hv) n1 n2) ha set_list (by intro v; cases a <;> first | rfl | cases hs)) (show swapsWith e (some (.Subscript (.Name x px) a ps)) pos.line X.env = pure false from noComp_ok hc _ _ _) (noTup_ok ht _)) fun D σ H q => ?_
  obtain ⟨G0, Hf, s0, G, s, env, t, er, q⟩ := q
  rw [evS] at q
  split at q
  · rename_i hb
    rw [Ws.sr] at q
    refine semS.one t er q fun y u G1 H1 s1 t1 ry q1 => ?_
    rw [Ws.sr] at q1
    cases he : env[i]? with
    | none => rw [he] at hb; cases hb
    | some w => cases w with
      | none => rw [he] at hb; cases hb
      | some w =>
        obtain ⟨o, d⟩ := w
        have er1 := er.step t1
        have hσ : ∃ v, σ[i]? = some (some v) := by
          cases o with
          | false => obtain ⟨v, h1, _⟩ := er.sh i d he; exact ⟨v, h1⟩
          | true => obtain ⟨a, _, _, h1, _⟩ := er.ow i d he; exact ⟨_, h1⟩
        obtain ⟨v, hσ⟩ := hσ
        refine ⟨v, hσ, semS.one (t.trans t1) er1 (q1.imp (fun _ _ z => z) fun x s' z => exK.wide z t1.g) fun j w G2 H2 s2 t2 rj z => ?_⟩
        have ry2 := ry.step t2
        unfold setS at z
        cases e2 : setV i j.2 y env s2 with
        | none => rw [e2] at z; exact z.elim
        | some r =>
          obtain ⟨e3, s3⟩ := r
          rw [e2] at z
          obtain ⟨kj, dj⟩ := j
          cases o with
          | true =>
            obtain ⟨a, xs, l, k1, k2, k3, k4, k5, k6, k7⟩ := er.ow i d he
            subst k2
            rw [hσ] at k1; cases k1
            cases dj with
            | int m =>
              have e4 : ((ixN l.length m).bind fun m => (keep y).map fun d => (env.set i (some (true, .lst (l.set m d))), s2)) = some (e3, s3) := by
                have := e2
                unfold setV at this
                rw [he] at this
                exact this
              obtain ⟨n, e5, e6⟩ := Option.bind_eq_some_iff.mp e4
              obtain ⟨d, e7, e8⟩ := Option.map_eq_some_iff.mp e6
              cases e8
              obtain ⟨G3, g3, t3, t4, er4, r4⟩ := keepE t er (t1.trans t2) ry2 e7
              obtain ⟨b, ys, l2, f1, f2, f3, f4, f5, f6, f7⟩ := er4.ow i _ he
              rw [hσ] at f1; cases f1
              cases f2
              obtain ⟨t5, er5⟩ := own_upd t4 er4 he hσ (f6.set r4 n)
              exact ⟨_, ys, m, n, rfl, rj.int, f3, by rw [f6.length]; exact e5, z σ G3 _ t3.g t5 er5⟩
            | _ =>
              have e4 := e2
              unfold setV at e4
              rw [he] at e4
              exact nomatch e4
          | false =>
            obtain ⟨v', h1, h2⟩ := er.sh i d he
            rw [hσ] at h1; cases h1
            cases d with
            | drw =>
              cases h2 with
              | drw had =>
                rename_i a
                have tt := (t.trans t1).trans t2
                obtain ⟨dd, f1, f2, f3, f4⟩ := tt.r.at_ had
                subst f1
                cases dj with
                | int m =>
                  obtain ⟨ky, dy⟩ := y
                  have e4 := e2
                  unfold setV at e4
                  rw [he] at e4
                  cases dy with
                  | int w =>
                    have e5 : (if m = 1 then some (env, some { dd with p := w }) else if m = 2 then some (env, some { dd with r := w }) else if m = 3 then some (env, some { dd with s := w }) else none) = some (e3, s3) := e4
                    have er2 := er1.step t2
                    have mk : ∀ (n : Nat) (d' : Drw), d'.c = dd.c → ixN 4 m = some n → ([.ref T.cd, .int dd.p, .int dd.r, .int dd.s] : List V).set n u = [.ref T.cd, .int d'.p, .int d'.r, .int d'.s] → (env, some d') = (e3, s3) → rSetL (.ref a) _ u H2 fun H4 => D.nx σ H4 := fun n d' hc hn hl hz => by
                      cases hz
                      refine ⟨a, _, m, n, rfl, rj.int, f3, hn, ?_⟩
                      rw [hl]
                      have t5 := tt.turn had hc
                      refine z σ G2 _ (t1.g.trans t2.g) t5 ⟨er2.len, er2.sh, fun j d q => ?_, er2.ne⟩
                      obtain ⟨b, zs, es, g1, g2, g3, g4, g5, g6, g7⟩ := er2.ow j d q
                      have nb : b ≠ a := fun q => g5 (by rw [had, q])
                      exact ⟨b, zs, es, g1, g2, by rw [upd_ne nb]; exact g3, g4, g5, g6, g7⟩
                    have hu : u = .int w := ry.int
                    split at e5
                    · rename_i hm; subst hm; subst hu
                      exact mk 1 { dd with p := w } rfl rfl rfl (Option.some.inj e5)
                    · split at e5
                      · rename_i hm; subst hm; subst hu
                        exact mk 2 { dd with r := w } rfl rfl rfl (Option.some.inj e5)
                      · split at e5
                        · rename_i hm; subst hm; subst hu
                          exact mk 3 { dd with s := w } rfl rfl rfl (Option.some.inj e5)
                        · cases e5
                  | _ => exact nomatch e4
                | _ =>
                  have e4 := e2
                  unfold setV at e4
                  rw [he] at e4
                  exact nomatch e4
            | _ =>
              have e4 := e2
              unfold setV at e4
              rw [he] at e4
              cases dj <;> exact nomatch e4
  · exact q.elim
end
end Ev
set_option Elab.async false
set_option linter.all false
set_option maxRecDepth 100000
set_option maxHeartbeats 4000000
namespace Ev
open PySem PySem.Spec PyProof.Rows L2
/-! ### name[i] op= value -/
theorem get_list {X : Cx} : PGet X (rIxL X.K) := by
  intro pins s σ H x y v u Q I rx ry h
  obtain ⟨p, xs, i, z, rfl, rfl, hq, he, q⟩ := h
  cases rx
  obtain ⟨t, rfl⟩ := ry
  obtain ⟨its, r, pl, hz⟩ := I.list hq
  obtain ⟨j, h1, h2, h3, h4, h5⟩ := atI_get he
  obtain ⟨w, ew, rw'⟩ := r.get h2
  have hl := r.length
  have hn := line63
  have fin : EP X pins σ Q w s := ⟨z, H, I, rw', q⟩
  by_cases h0 : 0 ≤ i
  · have hj : i.toNat = j := by
      rw [seqIndex_of h0 h5] at h1
      exact Option.some.inj h1
    exact wpAny_getItem_list pl.isList h0 (by omega) (by rw [hj]; simpa using ew) fin
  · have hj : (i + (its.toArray.size : Int)).toNat = j := by
      rw [seqIndex_neg (by omega) h4] at h1
      rw [List.size_toArray, ← hl]
      exact Option.some.inj h1
    exact wpAny_getItem_list_neg pl.isList (by omega) (by rw [List.size_toArray] <;> omega) (by omega) (by rw [hj]; simpa using ew) fin
section
variable {X : Cx} {T : Ct} {c : Cc} {tb : Tab} {N : List Str} {ow : Option Scope} {sc : Scope} {W : WX} {k : Nat}
theorem owned_at {env : Env} {i : Nat} {l : List D} (h : owned env i = some l) : env[i]? = some (some (true, .lst l)) := by
  unfold owned at h
  split at h
  · rename_i l' e; cases h; exact e
  · cases h
theorem st_augs (gd : Gd X T c tb N ow sc W k) {i : Nat} {x : Str} {a e : Expr} {ea ee : E} {p : Operator} {o : Op} {px ps pos : Pos} (hp : augOp p = some o) (hi : eqOS N[i]? x = true) (hv : visB sc x = true) (hn : nameB x = true) (hs : noSlice a = true) (ha : PE X a (semE T c W ea)) (he : PE X e (semE T c W ee)) :
    PS X (.AugAssign (.Subscript (.Name x px) a ps) p e pos) (semS T c W (.augs i ea o ee)) := by
  obtain ⟨n1, n2, _⟩ := nameB_ok hn
  have hst : ∀ ov iv new, augStore a ov iv new = (do holding [new, ov, iv] (setItem ov iv new); release [new, ov, iv] []; pure .next) := fun ov iv new => by
    cases a <;> first | rfl | cases hs
  have go : ∀ (f : Int → Int → Int) (D : Ends) σ H, (∀ a y : Int, augI o a y = some (f a y)) → semS T c W (.augs i ea o ee) D σ H → tAugS (tVar i) (semE T c W ea) (semE T c W ee) (rIxL X.K) (ipI f) rSetL D σ H := fun f D σ H hf q => by
    obtain ⟨G0, Hf, s0, G, s, env, t, er, q⟩ := q
    rw [evS] at q
    cases ho : owned env i with
    | none => rw [ho] at q; exact q.elim
    | some l =>
      rw [ho] at q
      have he := owned_at ho
      have q : Ws ((evE c ea env s).sr env fun j s1 => match ixD (.lst l) j.2 with
        | some (.int a) => (evE c ee env s1).sr env fun x s2 => (match x.2 with
          | .int y => (match augI o a y with
            | some z => setS i j.2 (.sh, .int z) env s2
            | none => .stk)
          | _ => .stk)
        | _ => .stk) _ _ _ _ _ := q
      rw [Ws.sr] at q
      obtain ⟨b, xs, ds, k1, k2, k3, k4, k5, k6, k7⟩ := er.ow i _ he
      refine ⟨_, k1, semS.one t er q fun j w G1 H1 s1 t1 rj q1 => ?_⟩
      obtain ⟨kj, dj⟩ := j
      have er1 := er.step t1
      obtain ⟨b', ys, ds', f1, f2, f3, f4, f5, f6, f7⟩ := er1.ow i _ he
      rw [k1] at f1; cases f1
      cases f2
      cases dj with
      | int m =>
        have q1 : Ws (match L2.atI l m with
          | some (.int a) => (evE c ee env s1).sr env fun x s2 => (match x.2 with
            | .int y => (match augI o a y with
              | some z => setS i (.int m) (.sh, .int z) env s2
              | none => .stk)
            | _ => .stk)
          | _ => .stk) _ _ _ _ _ := q1
        cases hx : L2.atI l m with
        | none => rw [hx] at q1; exact q1.elim
        | some av =>
          rw [hx] at q1
          cases av with
          | int a0 =>
            obtain ⟨v, hv1, rv⟩ := f6.atI hx
            have hv2 : v = .int a0 := by cases rv; rfl
            subst hv2
            refine ⟨b, ys, m, .int a0, rfl, rj.int, .of f3, hv1, ?_⟩
            have q2 : Ws ((evE c ee env s1).sr env fun x s2 => (match x.2 with
              | .int y => (match augI o a0 y with
                | some z => setS i (.int m) (.sh, .int z) env s2
                | none => .stk)
              | _ => .stk)) _ _ _ _ _ := q1
            rw [Ws.sr] at q2
            refine semS.one (t.trans t1) er1 (q2.imp (fun _ _ z => z) fun x s' z => exK.wide z t1.g) fun y u G2 H2 s2 t2 ry z => ?_
            obtain ⟨ky, dy⟩ := y
            cases dy with
            | int y0 =>
              have z : Ws (match augI o a0 y0 with
                | some z => setS i (.int m) (.sh, .int z) env s2
                | none => .stk) _ _ _ _ _ := z
              rw [hf] at z
              have z : Ws (setS i (.int m) (.sh, .int (f a0 y0)) env s2) _ _ _ _ _ := z
              refine ⟨a0, y0, rfl, ry.int, ?_⟩
              unfold setS setV at z
              rw [he] at z
              have er2 := er1.step t2
              obtain ⟨b2, zs, es, g1, g2, g3, g4, g5, g6, g7⟩ := er2.ow i _ he
              rw [k1] at g1; cases g1
              cases g2
              cases hix : ixN l.length m with
              | none =>
                have : L2.atI l m = none := by unfold L2.atI; rw [hix]; rfl
                rw [this] at hx; cases hx
              | some n =>
                have z : Ws (match ((ixN l.length m).bind fun m => (keep (Kd.sh, Ev.D.int (f a0 y0))).map fun d => (env.set i (some (true, .lst (l.set m d))), s2)) with
                  | some (e, s') => SR.nx e s'
                  | none => .stk) _ _ _ _ _ := z
                rw [hix] at z
                have t3 := (t.trans t1).trans t2
                obtain ⟨t5, er5⟩ := own_upd t3 er2 he k1 (g6.set (RD.int _) n)
                exact ⟨_, zs, m, n, rfl, rj.int, g3, by rw [g6.length]; exact hix, z σ G2 _ (t1.g.trans t2.g) t5 er5⟩
            | _ => exact z.elim
          | _ => exact q1.elim
      | _ => exact q1.elim
  have pv : PE X (.Name x px) (tVar i) := pe_var (i := i) (by rw [gd.hN]; exact eqOS_ok hi) (by rw [gd.hsc]; exact visB_ok hv) n1 n2
  cases p with
  | Add =>
    cases hp
    exact PS.mono (ps_augS pv ha get_list he ip_add set_list hst) fun D σ H q => go (fun a y => a + y) D σ H (fun _ _ => rfl) q
  | Sub =>
    cases hp
    exact PS.mono (ps_augS pv ha get_list he ip_sub set_list hst) fun D σ H q => go (fun a y => a - y) D σ H (fun _ _ => rfl) q
  | _ => cases hp
end
end Ev
set_option Elab.async false
set_option linter.all false
set_option maxRecDepth 100000
set_option maxHeartbeats 4000000
namespace Ev
open PySem PySem.Spec PyProof.Rows L2
theorem owned_ok {env : Env} {i : Nat} {l : List D} (h : owned env i = some l) : env[i]? = some (some (true, .lst l)) := by
  unfold owned at h
  split at h
  · cases h; assumption
  · cases h
theorem few1 {e : Expr} (hn : noStar e = true) (cpos : Pos) (env : PySem.Env) : ((backTo cpos (starEach [e] env)).all (fun x => !x.1) && (backToKw cpos (keywordEach [] env)).all (fun x => x.1.isSome)
      && decide (([e] : List Expr).length + ([] : List Keyword).length + (if ([] : List Keyword).isEmpty then 0 else 1) < 30)) = true := by
  rw [star_cons hn]; rfl
section
variable {X : Cx} {T : Ct} {c : Cc} {tb : Tab} {N : List Str} {ow : Option Scope} {sc : Scope} {W : WX} {k : Nat}
theorem pe_slot (gd : Gd X T c tb N ow sc W k) {i : Nat} {x : Str} {px : Pos} (hi : eqOS N[i]? x = true) (hv : visB sc x = true) (hn : nameB x = true) : PE X (.Name x px) (tVar i) := by
  obtain ⟨n1, n2, _⟩ := nameB_ok hn
  exact pe_var (i := i) (by rw [gd.hN]; exact eqOS_ok hi) (by rw [gd.hsc]; exact visB_ok hv) n1 n2
theorem st_app (gd : Gd X T c tb N ow sc W k) {i : Nat} {x : Str} {e : Expr} {ee : E} {px pa pos pos' : Pos} (hi : eqOS N[i]? x = true) (hv : visB sc x = true) (hn : nameB x = true) (he : noStar e = true) (hl : (pa.endLine == pos'.line) = true) (ha : PA X [e] (semA T c W [ee])) :
    PS X (.Expr (.Call (.Attribute (.Name x px) "append" pa) [e] [] pos') pos) (semS T c W (.app i ee)) := by
  refine PS.mono (ps_expr (pe_bm F.plainAttrs_list F.slot_list_append F.type_list_append mt_append (pe_slot gd hi hv hn) ha rfl (few1 he _ _) hl (star_cons he _ _) rfl) rfl) fun D σ H q => ?_
  obtain ⟨G0, Hf, s0, G, s, env, t, er, q⟩ := q
  rw [evS] at q
  cases ho : owned env i with
  | none => rw [ho] at q; exact q.elim
  | some l =>
    rw [ho] at q
    rw [Ws.sr] at q
    have hoi := owned_ok ho
    obtain ⟨a, xs, l2, k1, k2, k3, k4, k5, k6, k7⟩ := er.ow i _ hoi
    cases k2
    refine ⟨.ref a, k1, .inl ⟨rfl, xs, .of k3⟩, ?_⟩
    refine ⟨G0, Hf, s0, G, s, env, t, er, ?_⟩
    rw [evEs, Wp.bind]
    refine q.imp (fun y s1 z => ?_) fun x s' z => z.w t er
    rw [evEs, Out.bind]
    intro vs G1 H1 t1 rs
    cases vs with
    | nil => exact rs.elim
    | cons v vs => cases vs with
      | cons _ _ => exact rs.2.choose_spec.2.2.elim
      | nil =>
        have ry := rs.1
        cases kd : keep y with
        | none => rw [kd] at z; exact z.elim
        | some d =>
          rw [kd] at z
          have z : Ws (if l.length < sizeLine then .nx (env.set i (some (true, .lst (l ++ [d])))) s1 else .stk) (nxK T G0 Hf s0 G D.nx) (nxK T G0 Hf s0 G D.bk) (nxK T G0 Hf s0 G D.ct) (rtK T G0 Hf s0 G D.rt) (exK T G0 Hf s0 G W) := z
          split at z
          · rename_i lt
            obtain ⟨G3, g3, t3, t4, er4, r4⟩ := keepE t er t1 ry kd
            obtain ⟨b, ys, l3, f1, f2, f3, f4, f5, f6, f7⟩ := er4.ow i _ hoi
            rw [k1] at f1; cases f1
            cases f2
            obtain ⟨t5, er5⟩ := own_upd t4 er4 hoi k1 (f6.append (.cons r4 .nil))
            exact ⟨a, ys, v, rfl, rfl, f3, by rw [f6.length]; exact lt, z σ G3 _ t3.g t5 er5⟩
          · exact z.elim
theorem st_ext (gd : Gd X T c tb N ow sc W k) {i : Nat} {x : Str} {e : Expr} {ee : E} {px pa pos pos' : Pos} (hi : eqOS N[i]? x = true) (hv : visB sc x = true) (hn : nameB x = true) (he : noStar e = true) (hl : (pa.endLine == pos'.line) = true) (ha : PA X [e] (semA T c W [ee])) :
    PS X (.Expr (.Call (.Attribute (.Name x px) "extend" pa) [e] [] pos') pos) (semS T c W (.ext i ee)) := by
  refine PS.mono (ps_expr (pe_bm F.plainAttrs_list F.slot_list_extend F.type_list_extend mt_extend (pe_slot gd hi hv hn) ha rfl (few1 he _ _) hl (star_cons he _ _) rfl) rfl) fun D σ H q => ?_
  obtain ⟨G0, Hf, s0, G, s, env, t, er, q⟩ := q
  rw [evS] at q
  cases ho : owned env i with
  | none => rw [ho] at q; exact q.elim
  | some l =>
    rw [ho] at q
    rw [Ws.sr] at q
    have hoi := owned_ok ho
    obtain ⟨a, xs, l2, k1, k2, k3, k4, k5, k6, k7⟩ := er.ow i _ hoi
    cases k2
    refine ⟨.ref a, k1, .inl ⟨rfl, xs, .of k3⟩, ?_⟩
    refine ⟨G0, Hf, s0, G, s, env, t, er, ?_⟩
    rw [evEs, Wp.bind]
    refine q.imp (fun y s1 z => ?_) fun x s' z => z.w t er
    rw [evEs, Out.bind]
    intro vs G1 H1 t1 rs
    cases vs with
    | nil => exact rs.elim
    | cons v vs => cases vs with
      | cons _ _ => exact rs.2.choose_spec.2.2.elim
      | nil =>
        have ry := rs.1
        obtain ⟨ky, dy⟩ := y
        cases dy with
        | lst r =>
          have z : Ws (if l.length + r.length ≤ sizeLine then .nx (env.set i (some (true, .lst (l ++ r)))) s1 else .stk) (nxK T G0 Hf s0 G D.nx) (nxK T G0 Hf s0 G D.bk) (nxK T G0 Hf s0 G D.ct) (rtK T G0 Hf s0 G D.rt) (exK T G0 Hf s0 G W) := z
          split at z
          · rename_i lt
            obtain ⟨b, zs, e1, h1, r1⟩ := ry.list t1.s
            have er4 := er.step t1
            obtain ⟨b', ys, l3, f1, f2, f3, f4, f5, f6, f7⟩ := er4.ow i _ hoi
            rw [k1] at f1; cases f1
            cases f2
            obtain ⟨t5, er5⟩ := own_upd (t.trans t1) er4 hoi k1 (f6.append r1)
            exact ⟨a, b, ys, zs, rfl, by rw [e1], f3, h1, by rw [f6.length, r1.length]; exact lt, z σ G1 _ t1.g t5 er5⟩
          · exact z.elim
        | _ => exact z.elim
theorem st_pop (gd : Gd X T c tb N ow sc W k) {i : Nat} {x : Str} {px pa pos pos' : Pos} (hi : eqOS N[i]? x = true) (hv : visB sc x = true) (hn : nameB x = true) (hl : (pa.endLine == pos'.line) = true) :
    PS X (.Expr (.Call (.Attribute (.Name x px) "pop" pa) [] [] pos') pos) (semS T c W (.pop i)) := by
  refine PS.mono (ps_expr (pe_bm0 F.plainAttrs_list F.slot_list_pop F.type_list_pop mt_pop (pe_slot gd hi hv hn) rfl hl) rfl) fun D σ H q => ?_
  obtain ⟨G0, Hf, s0, G, s, env, t, er, q⟩ := q
  rw [evS] at q
  cases ho : owned env i with
  | none => rw [ho] at q; exact q.elim
  | some l =>
    rw [ho] at q
    have z : Ws (if l.length = 0 then .stk else .nx (env.set i (some (true, .lst l.dropLast))) s) (nxK T G0 Hf s0 G D.nx) (nxK T G0 Hf s0 G D.bk) (nxK T G0 Hf s0 G D.ct) (rtK T G0 Hf s0 G D.rt) (exK T G0 Hf s0 G W) := q
    have hoi := owned_ok ho
    obtain ⟨a, xs, l2, k1, k2, k3, k4, k5, k6, k7⟩ := er.ow i _ hoi
    cases k2
    split at z
    · exact z.elim
    · rename_i ne
      have hl := k6.length
      obtain ⟨t5, er5⟩ := own_upd t er hoi k1 k6.dropLast
      refine ⟨.ref a, k1, .inl ⟨rfl, xs, .of k3⟩, a, xs, xs[xs.length - 1]'(by omega), rfl, rfl, k3, List.getElem?_eq_getElem _, z σ G _ (Sub.refl _) t5 er5⟩
/-! ### methods of values -/
theorem strOk_mem {b : List Nat} (h : PyData.canLay0 (.str ⟨b.toArray⟩) = true) {p : List Nat} (hp : ∀ x ∈ p, x ∈ b) : PyData.canLay0 (.str ⟨p.toArray⟩) = true := by
  simp [PyData.canLay0, PyData.strOk] at h ⊢
  intro x hx
  exact h x (hp x hx)
theorem spl_sub {b : List Nat} : ∀ (a : List Nat) (n : Nat) (acc : List Nat) (p : List Nat), p ∈ TL.spl b n acc a → ∀ x ∈ p, x ∈ acc ∨ x ∈ a
  | [], n, acc, p, h, x, hx => by
    cases n <;> (simp only [TL.spl, List.mem_singleton] at h; subst h; exact .inl hx)
  | c :: r, 0, acc, p, h, x, hx => by
    simp only [TL.spl] at h
    split at h
    · rcases List.mem_cons.mp h with h | h
      · subst h; exact .inl hx
      · rcases spl_sub r _ [] p h x hx with z | z
        · cases z
        · exact .inr (List.mem_cons_of_mem _ z)
    · rcases spl_sub r 0 (acc ++ [c]) p h x hx with z | z
      · rcases List.mem_append.mp z with z | z
        · exact .inl z
        · rw [List.mem_singleton] at z; subst z; exact .inr (List.mem_cons_self ..)
      · exact .inr (List.mem_cons_of_mem _ z)
  | c :: r, n + 1, acc, p, h, x, hx => by
    simp only [TL.spl] at h
    rcases spl_sub r n acc p h x hx with z | z
    · exact .inl z
    · exact .inr (List.mem_cons_of_mem _ z)
theorem rds_strs {K : PySem.W.Frag} {ad : Option Addr} {G : Hp} : ∀ {l : List Str}, (∀ x ∈ l, PyData.canLay0 (.str x) = true) → RDs K ad G (l.map V.str) (l.map D.str)
  | [], _ => .nil
  | x :: l, h => .cons (.str x (h x (List.mem_cons_self ..))) (rds_strs fun y hy => h y (List.mem_cons_of_mem _ hy))
theorem s_index (gd : Gd X T c tb N ow sc W k) {o e : Expr} {eo ee : E} {pa pos : Pos} (hb : plainBase o = true) (he : noStar e = true) (hl : (pa.endLine == pos.line) = true) (hO : PE X o (semE T c W eo)) (ha : PA X [e] (semA T c W [ee])) :
    PE X (.Call (.Attribute o "index" pa) [e] [] pos) (semE T c W (.mth .index eo [ee])) := by
  refine PE.mono (pe_bm F.plainAttrs_list F.slot_list_index F.type_list_index mt_index hO ha (plainBase_ok hb _ _) (few1 he _ _) hl (star_cons he _ _) rfl) fun σ H Q q => ?_
  obtain ⟨G0, Hf, s0, G, s, env, t, er, q⟩ := q
  rw [evE, Wp.bind] at q
  refine semE.one t er q fun x u G1 H1 s1 t1 rx q1 => ?_
  obtain ⟨kx, dx⟩ := x
  cases dx with
  | lst l =>
    rw [if_pos (show mtOk .index (.lst l) = true from rfl), Wp.bind] at q1
    obtain ⟨a, xs, hu, h1, r1⟩ := rx.list t1.s
    refine ⟨by rw [hu]; exact .inl ⟨rfl, xs, .of h1⟩, semA.one (t.trans t1) (er.step t1) (q1.imp (fun _ _ z => z) fun _ _ z => z.step t1) fun ys us G2 H2 s2 t2 rs q2 => ?_⟩
    obtain ⟨z, e1, q3⟩ := q2.lift
    have hd : ∃ ky dy, ys = [(ky, dy)] ∧ (if flatD dy && l.all flatD then (l.findIdx? fun y => eqD y dy).map fun j => (Kd.sh, Ev.D.int (j : Nat)) else none) = some z := by
      cases ys with
      | nil => cases e1
      | cons y ys => cases ys with
        | nil => exact ⟨y.1, y.2, rfl, e1⟩
        | cons _ _ => cases e1
    obtain ⟨ky, dy, rfl, e2⟩ := hd
    split at e2
    · rename_i hf
      obtain ⟨f1, f2⟩ := ba2 hf
      obtain ⟨j, e3, rfl⟩ := Option.map_eq_some_iff.mp e2
      cases us with
      | nil => exact rs.elim
      | cons v us => cases us with
        | cons _ _ => exact rs.2.choose_spec.2.2.elim
        | nil =>
          have ry := rs.1.any t2.s
          obtain ⟨ev, fv⟩ := ry.flatV f1
          have t12 := t1.trans t2
          obtain ⟨a, xs, hu, h1, r1⟩ := (rx.step t2).list t2.s
          obtain ⟨ex, fx⟩ := r1.flatV f2
          rw [List.findIdx?_eq_some_iff_getElem] at e3
          obtain ⟨lt, hz, hno⟩ := e3
          have all : ∀ y ∈ l, flatD y = true := List.all_eq_true.mp f2
          have at_ : ∀ {m : Nat} (h : m < l.length), xs[m]? = some (toV l[m]) := fun {m} h => by
            rw [ex, List.getElem?_map, List.getElem?_eq_getElem h]; rfl
          refine ⟨a, xs, v, j, toV l[j], hu, rfl, .of h1, fv, fx, at_ lt, ?_, fun m z' hm hm' => ?_, q3 _ G2 H2 t12 (RD.int _)⟩
          · rw [ev, eqV_toV (all _ (List.getElem_mem lt)) f1]; exact hz
          · have lm : m < l.length := Nat.lt_trans hm lt
            rw [at_ lm] at hm'
            cases hm'
            rw [ev, eqV_toV (all _ (List.getElem_mem lm)) f1]
            simpa using hno m hm
    · cases e2
  | _ => exact q1.elim
theorem s_split (gd : Gd X T c tb N ow sc W k) {o e : Expr} {eo ee : E} {pa pos : Pos} (hb : plainBase o = true) (he : noStar e = true) (hl : (pa.endLine == pos.line) = true) (hO : PE X o (semE T c W eo)) (ha : PE X e (semE T c W ee)) :
    PE X (.Call (.Attribute o "split" pa) [e] [] pos) (semE T c W (.mth .split eo [ee])) := by
  refine PE.mono (pe_m1 F.slot_str_split F.type_str_split mt_split hO ha (star_cons he _ _) (plainBase_ok hb _ _) hl) fun σ H Q q => ?_
  obtain ⟨G0, Hf, s0, G, s, env, t, er, q⟩ := q
  rw [evE, Wp.bind] at q
  refine semE.one t er q fun x u G1 H1 s1 t1 rx q1 => ?_
  obtain ⟨kx, dx⟩ := x
  cases dx with
  | str z =>
    rw [if_pos (show mtOk .split (.str z) = true from rfl), evEs, Wp.bind, Wp.bind] at q1
    refine ⟨⟨z, rx.str.1⟩, semE.one (t.trans t1) (er.step t1) (q1.imp (fun _ _ z => z) fun _ _ z => z.step t1) fun y v G2 H2 s2 t2 ry q2 => ?_⟩
    rw [evEs, Out.bind] at q2
    obtain ⟨w, e1, q3⟩ := Wp.lift q2
    obtain ⟨ky, dy⟩ := y
    cases dy with
    | str b =>
      have e2 : (if b.cps.toList ≠ [] ∧ b.cps.toList.all (· < 256) = true ∧ z.length + 2 ≤ sizeLine then some (Kd.fr, Ev.D.lst ((TL.spl b.cps.toList 0 [] z.cps.toList).map fun l => .str ⟨l.toArray⟩)) else none) = some w := e1
      split at e2
      · rename_i hh
        cases e2
        obtain ⟨h1, h2, h3⟩ := hh
        have ze : SX.S z.cps.toList = z := by show (⟨_⟩ : Str) = _; rw [Array.toArray_toList]
        have be : SX.S b.cps.toList = b := by show (⟨_⟩ : Str) = _; rw [Array.toArray_toList]
        have sp := SX.split_S (a := z.cps.toList) h1 h2
        rw [ze, be] at sp
        refine ⟨z, b, rx.str.1, by rw [ry.str.1], ?_, h3, fun p hp => ?_⟩
        · have : b.length = b.cps.toList.length := by rw [Array.length_toList]; rfl
          rw [this]
          cases hb : b.cps.toList with
          | nil => exact absurd hb h1
          | cons _ _ => rfl
        · rw [sp]
          have rd : RDs T.K T.ad G2 (((TL.spl b.cps.toList 0 [] z.cps.toList).map SX.S).map V.str) (((TL.spl b.cps.toList 0 [] z.cps.toList).map SX.S).map Ev.D.str) := rds_strs fun x hx => by
            obtain ⟨l, hl, rfl⟩ := List.mem_map.mp hx
            refine strOk_mem (b := z.cps.toList) (by show PyData.canLay0 (.str (SX.S z.cps.toList)) = true; rw [ze]; exact rx.str.2) fun c hc => ?_
            rcases spl_sub _ _ _ _ hl c hc with q | q
            · cases q
            · exact q
          have en : (TL.spl b.cps.toList 0 [] z.cps.toList).map (fun l => Ev.D.str ⟨l.toArray⟩) = ((TL.spl b.cps.toList 0 [] z.cps.toList).map SX.S).map Ev.D.str := by rw [List.map_map]; rfl
          rw [en] at q3
          exact newLst (t1.trans t2) t.n rd hp q3
      · cases e2
    | _ => cases e1
  | _ => exact q1.elim
end
end Ev
set_option Elab.async false
set_option linter.all false
set_option maxRecDepth 100000
set_option maxHeartbeats 4000000
namespace Ev
open PySem PySem.Spec PyProof.Rows L2
/-! ### except clauses, some of them with names -/
abbrev Cla : Type := Value × (Option Nat × (Addr → Value → Option Addr → TS))
inductive HdM (X : Cx) : List ExceptHandler → List Cla → Prop
  | nil : HdM X [] []
  | anon {x : Str} {c : Value} {ts : Addr → Value → Option Addr → TS} {b1 : Stmt} {bs : List Stmt} {p1 p2 : Pos} {hs : List ExceptHandler} {l : List Cla} (hc : Names X x c)
      (su : ∀ (a : Addr) (oe : Obj) (cls : Value) (d : Option Addr) (pn : List (Addr × Obj)), Zc cls d oe → (∃ vs, oe.data = .fields vs) → PSs (X.suite a ((a, oe) :: pn)) (b1 :: bs) (ts a cls d)) (r : HdM X hs l) :
      HdM X (.ExceptHandler (some (.Name x p1)) none (b1 :: bs) p2 :: hs) ((c, none, ts) :: l)
  | named {x n : Str} {i : Nat} {c : Value} {ts : Addr → Value → Option Addr → TS} {b1 : Stmt} {bs : List Stmt} {p1 p2 : Pos} {hs : List ExceptHandler} {l : List Cla} (hc : Names X x c) (hi : X.N[i]? = some n) (hn : X.env.kindOf n = some .local)
      (su : ∀ (a : Addr) (oe : Obj) (cls : Value) (d : Option Addr) (pn : List (Addr × Obj)), Zc cls d oe → (∃ vs, oe.data = .fields vs) → PSs (X.suite a ((a, oe) :: pn)) (b1 :: bs) (ts a cls d)) (r : HdM X hs l) :
      HdM X (.ExceptHandler (some (.Name x p1)) (some n) (b1 :: bs) p2 :: hs) ((c, some i, ts) :: l)
/-- the ends behind a clause whose name goes -/
def offI (i : Nat) (D : Ends) : Ends := { nx := fun σ H => D.nx (σ.set i none) H, rt := D.rt, bk := fun σ H => D.bk (σ.set i none) H, ct := fun σ H => D.ct (σ.set i none) H }
def claK : Option Nat → (Addr → Value → Option Addr → TS) → Addr → Value → Option Addr → TS
  | none, ts, a, cls, d => ts a cls d
  | some i, ts, a, cls, d => fun D σ H => i < σ.length → ts a cls d (offI i D) (σ.set i (some (.ref a))) H
/-- what the clauses wish of an exception -/
def wMix (K : PySem.W.Frag) (W : WX) (D : Ends) : List Cla → WX
  | [] => W
  | (c, o, ts) :: r => fun cls d σ H => ∃ b, PySem.W.exmOne K cls c = some b ∧ (b = true → ∀ a, H a = none → claK o ts a cls d D σ H) ∧ (b = false → wMix K W D r cls d σ H)
section
variable {X : Cx} {W : WX} {D : Ends} {pins : List (Addr × Obj)}
/-- the class that a clause names, read while an exception is handled -/
theorem cla_name {x : Str} {c : Value} {a : Addr} {oe : Obj} {p : Pos} {pl : List (Addr × Obj)} {σ : L2.St} {H : Hp} {s : Shared} {Q : Value → Shared → Prop} {E : Value → Shared → Prop} (hc : Names X x c) (I : Inv (X.suite a ((a, oe) :: pl)) [] σ H s) (q : Q c s) :
    wpAny (model X.prog X.w) (X.A.mark (some (.ref a))) (eval (.Name x p) X.env) Q E s := by
  obtain ⟨hg, hd, hm | ⟨hm, hv, hn⟩⟩ := hc
  · exact ld_glob (X := X.suite a ((a, oe) :: pl)) I hg hm q hd
  · exact ld_blt (X := X.suite a ((a, oe) :: pl)) I hg hm hv q hn hd
/-- the clauses in turn, at an exception that is on its way -/
theorem clas_run (ok : X.Ok) (hst : X.stack = X.env :: X.outer) (hfr : X.env.frame = some X.env.locals) (nd : X.N.Nodup) (tk : Takes X W) {a : Addr} {B : Heap} {sI s1 : Shared} {τ : L2.St} {G : Hp} {cls : Value} {d : Option Addr} {h3 : Heap} (J : Inv X pins τ G sI)
    (nb : ∀ b o, sI.heap.get? b = some o → b ∉ frs X.stack → B.get? b = some o) (up : sI.heap.UpToSlots h3) (na : G a = none) (os : s1.os = sI.os) (ag : AllBare s1.gens) (fl : HandSPX.FlyingZ B (X.env :: X.outer) a (Zc cls d) h3) :
    ∀ {hs : List ExceptHandler} {l : List Cla}, HdM X hs l → wMix X.K W D l cls d τ G → wpAny (model X.prog X.w) X.A (handleBy (.ref a) X.env hs) (SP X pins D) X.xe { s1 with heap := h3 } := by
  obtain ⟨o3, v3, g3, z3, d3⟩ := fl.there
  have K3 : Inv X pins τ G { s1 with heap := h3 } := J.landed nb fl.1 up os ag
  have out : a ∉ frs (X.env :: X.outer) := fun hm => by
    obtain ⟨_, o', e', no⟩ := fl.2.2.1.mem hm
    rw [g3] at e'
    cases e'
    exact no _ d3
  have aL : a ≠ X.env.locals := fun z => out (List.mem_filterMap.mpr ⟨X.env, List.mem_cons_self, by rw [hfr, z]⟩)
  have aF : a ∉ X.fs := fun hm => by
    obtain ⟨e, he, q⟩ := List.mem_filterMap.mp hm
    exact out (List.mem_filterMap.mpr ⟨e, List.mem_cons_of_mem _ he, q⟩)
  have S3 := K3.suite g3 d3 na aL aF
  have looks : PySem.W.Looks (model X.prog X.w) h3 (typeOf (.ref a)) cls := fun _ _ _ _ k q => wpAny_typeOf_ref (k _ _ g3) (by rw [z3.1]; exact q)
  -- a suite is run
  have land : ∀ {Q : Unit → Shared → Prop} {E : Value → Shared → Prop} {A : Around}, (∀ h4 o4, Inv (X.suite a ((a, o4) :: (X.pn ++ pins))) [] τ G { s1 with heap := h4 } → Zc cls d o4 → (∃ vs, o4.data = .fields vs) → Q () { s1 with heap := h4 }) → wpAny (model X.prog X.w) A (setFlight (.ref a) none) Q E { s1 with heap := h3 } := fun {Q E A} k => by
    refine HandSPX.lands_againZ fl fun h4 fl4 up4 => ?_
    obtain ⟨o4, v4, g4, z4, d4⟩ := fl4.there
    have K4 : Inv X pins τ G { s1 with heap := h4 } := J.landed nb fl4.1 (up.trans up4) os ag
    exact k h4 o4 (K4.suite g4 d4 na aL aF) z4 ⟨_, d4⟩
  intro hs l hk
  induction hk with
  | nil =>
    intro w
    refine wpAny_handleBy_nil ?_
    obtain ⟨_, _, _, o5, v5, T5, _, _, e5, _, q5, q6, _⟩ := id fl
    unfold PySem.passOn
    refine wpAny_bind (wpAny_field e5 q5 q6 ?_)
    rw [if_neg (show ¬ ((Value.ref T5 == Value.none) = true) from by simp)]
    have last : wpAny (model X.prog X.w) X.A (setFlight (.ref a) X.env.frame) (fun _ s4 => wpAny (model X.prog X.w) X.A (throw (.ref a) : Sem Flow) (SP X pins D) X.xe s4) X.xe { s1 with heap := h3 } := by
      rw [hfr]
      refine HandSPX.setFlight_upZ fl fun h4 held up4 => wpAny_throw (tk _ _ ?_)
      exact ⟨a, B, sI, pins, τ, G, cls, d, rfl, J, nb, up.trans up4, .inr (.inr (by rw [hst]; exact held)), na, os, ag, w⟩
    first
      | exact wpAny_bind (wpAny_pure (wpAny_bind last))
      | exact wpAny_bind last
  | @anon x c ts b1 bs p1 p2 hs l hc su r ih =>
    intro w
    obtain ⟨b, m, yes, no⟩ := w
    refine wpAny_handleBy_cons (codeAny_handlers_test ?_) (fun q => nomatch q)
    refine cla_name hc S3 ((PySem.W.exm_one (M := model X.prog X.w) K3.kIn looks m).here ?_)
    cases b with
    | false => exact ih (no rfl)
    | true =>
      refine codeAny_handlers_suite (land fun h4 o4 S4 z4 d4 => ?_)
      refine wpAny_mono ((su a o4 cls d (X.pn ++ pins) z4 d4).run [] _ _ G _ S4 (yes rfl a na)) (fun f s6 hp => ?_) (fun _ _ z => False.elim z)
      cases f with
      | next =>
        obtain ⟨τ6, G6, S6, q6⟩ := hp
        exact ⟨_, _, S6.unsuite ok, q6⟩
      | brk =>
        obtain ⟨τ6, G6, S6, q6⟩ := hp
        exact ⟨_, _, S6.unsuite ok, q6⟩
      | cont =>
        obtain ⟨τ6, G6, S6, q6⟩ := hp
        exact ⟨_, _, S6.unsuite ok, q6⟩
      | ret u =>
        obtain ⟨v6, τ6, G6, S6, r6, q6⟩ := hp
        exact ⟨_, _, _, S6.unsuite ok, r6, q6⟩
  | @named x n i c ts b1 bs p1 p2 hs l hc hi hn su r ih =>
    intro w
    obtain ⟨b, m, yes, no⟩ := w
    refine wpAny_handleBy_cons (codeAny_handlers_test ?_) (fun q => nomatch q)
    refine cla_name hc S3 ((PySem.W.exm_one (M := model X.prog X.w) K3.kIn looks m).here ?_)
    cases b with
    | false => exact ih (no rfl)
    | true =>
      refine codeAny_handlers_suite_as (land fun h4 o4 S4 z4 d4 => ?_)
      refine store_ok (X := X.suite a ((a, o4) :: (X.pn ++ pins))) (v := .ref a) S4 nd hi (.inl hn) rfl (fun s5 S5 => ?_) (.inr hn)
      refine wpAny_mono ((su a o4 cls d (X.pn ++ pins) z4 d4).run [] s5 _ G _ S5 (yes rfl a na (by rw [J.len]; exact (List.getElem?_eq_some_iff.mp hi).1))) (fun f s6 hp => ?_) (fun _ _ z => False.elim z)
      have gone : ∀ {τ6 : L2.St} {G6 : Hp} {Q : Shared → Prop}, Inv (X.suite a ((a, o4) :: (X.pn ++ pins))) [] τ6 G6 s6 → (∀ s7, Inv X pins (τ6.set i none) G6 s7 → Q s7) →
          wpAny (model X.prog X.w) X.A (do bindName X.env n .none; unbindBehindTheSuite X.env n p2) (fun _ s7 => Q s7) X.xe s6 := fun {τ6 G6 Q} S6 k => gone_ok (S6.unsuite ok) nd hi hn k
      cases f with
      | next =>
        obtain ⟨τ6, G6, S6, q6⟩ := hp
        exact gone S6 fun s7 J7 => ⟨_, _, J7, q6⟩
      | brk =>
        obtain ⟨τ6, G6, S6, q6⟩ := hp
        exact gone S6 fun s7 J7 => ⟨_, _, J7, q6⟩
      | cont =>
        obtain ⟨τ6, G6, S6, q6⟩ := hp
        exact gone S6 fun s7 J7 => ⟨_, _, J7, q6⟩
      | ret u =>
        obtain ⟨v6, τ6, G6, S6, r6, q6⟩ := hp
        exact gone S6 fun s7 J7 => ⟨_, _, _, J7, r6, q6⟩
theorem ps_try_mix {body : List Stmt} {h0 : ExceptHandler} {hs : List ExceptHandler} {l : List Cla} {pos : Pos} {tb : WX → TS} (hst : X.stack = X.env :: X.outer) (hfr : X.env.frame = some X.env.locals) (nd : X.N.Nodup) (tk : Takes X W)
    (hb : ∀ (V : WX) (pn : List (Addr × Obj)) (xe : Value → Shared → Prop), Takes (X.tr pn xe) V → PassesOwn (model X.prog X.w) X.A X.env xe → PSs (X.tr pn xe) body (tb V)) (hh : HdM X (h0 :: hs) l) :
    PS X (.Try body (h0 :: hs) [] [] pos) (fun D σ H => tb (wMix X.K W D l) D σ H) := by
  refine ⟨fun pins s σ H D I h => ?_⟩
  have ok := I.ok
  refine wpAny_Try_except ?_
  have run := (hb (wMix X.K W D l) (X.pn ++ pins) (fun e s1 => wpAny (model X.prog X.w) X.A (noteFrame e X.env) (fun _ s2 => wpAny (model X.prog X.w) X.A (setFlight e none) (fun _ s3 =>
    wpAny (model X.prog X.w) X.A (handleBy e X.env (h0 :: hs)) (SP X pins D) X.xe s3) X.xe s2) X.xe s1) (fun u s1 xx => ?_) PassesOwn.looking).run [] s σ H D (I.toTry _) h
  · refine wpAny_mono run (fun f s1 hp => ?_) fun _ _ z => z
    cases f with
    | next =>
      obtain ⟨τ, G, J, q⟩ := hp
      exact wpAny_execs_nil ⟨τ, G, J.ofTry ok, q⟩
    | brk =>
      obtain ⟨τ, G, J, q⟩ := hp
      exact ⟨τ, G, J.ofTry ok, q⟩
    | cont =>
      obtain ⟨τ, G, J, q⟩ := hp
      exact ⟨τ, G, J.ofTry ok, q⟩
    | ret u =>
      obtain ⟨v, τ, G, J, r, q⟩ := hp
      exact ⟨v, τ, G, J.ofTry ok, r, q⟩
  · obtain ⟨a, B, sI, pl, τ, G, cls, d, rfl, J, nb, up, sky, na, os, ag, w⟩ := xx
    show wpAny (model X.prog X.w) X.A (noteFrame (.ref a) X.env) _ _ _
    have sky' : Sky B (X.env :: X.outer) a (Zc cls d) X.env.locals s1.heap := by rw [← hst]; exact sky
    refine Sky.land Zc.steady (by rw [ok.frames, hst]) hfr sky' fun h3 fl up3 => ?_
    exact clas_run (D := D) ok hst hfr nd tk (J.ofTry ok) nb (up.trans up3) na os ag fl hh w
end
end Ev
set_option Elab.async false
set_option linter.all false
set_option maxRecDepth 100000
set_option maxHeartbeats 4000000
namespace Ev
open PySem PySem.Spec PyProof.Rows L2
/-! ### what an except suite says of the caught exception -/
section
variable {X : Cx} {T : Ct} {c : Cc} {tb : Tab} {N : List Str} {ow : Option Scope} {sc : Scope} {W : WX} {k : Nat} {a : Addr} {oe : Obj} {cls : Value} {d : Option Addr} {pn : List (Addr × Obj)} {n : Str} {i : Nat}
/-- its field -/
def tFld (K : PySem.W.Frag) (i : Nat) (a : Addr) (cls : Value) (d : Option Addr) : TE := fun σ H Q => σ[i]? = some (some (.ref a)) ∧ ∃ (C dd : Addr) (v : V), cls = .ref C ∧ XfC K C ∧ PySem.W.findIn K (.ref C) "reason" = some none ∧ d = some dd ∧ H dd = some (.xd [("reason", v)]) ∧ Q v H
theorem x_fld {p p' : Pos} (hz : Zc cls d oe) (hf : ∃ vs, oe.data = .fields vs) (hN : X.N[i]? = some n) (hv : Vis X.env.scope n) (hn : nameB n = true) : PE (X.suite a ((a, oe) :: pn)) (.Attribute (.Name n p) "reason" p') (tFld X.K i a cls d) := by
  obtain ⟨n1, n2, _⟩ := nameB_ok hn
  refine ⟨fun pins s σ H Q I q => ?_⟩
  obtain ⟨h1, C, dd, v, e1, XF, no, e2, e3, q⟩ := q
  have pv : PE (X.suite a ((a, oe) :: pn)) (.Name n p) (tVar i) := pe_var hN hv n1 n2
  exact (pe_xf (X := X) XF no hz hf pv).run pins s σ H Q I ⟨.ref a, h1, rfl, e1, dd, _, v, e2, e3, by rw [lookup_put', if_pos rfl], q⟩
/-- isinstance(e, J) -/
def tIsx (K : PySem.W.Frag) (i : Nat) (a : Addr) (cls : Value) (d : Option Addr) (J : Addr) : TE := fun σ H Q => σ[i]? = some (some (.ref a)) ∧ ∃ (C : Addr) (b : Bool), cls = .ref C ∧ ExcC K C ∧ PySem.W.kitOne K (.ref C) (.ref J) = some b ∧ (d = none ∨ ∃ dd fs, d = some dd ∧ H dd = some (.xd fs)) ∧ Q (.bl b) H
theorem x_isx {J : Addr} {x : Str} {p p1 p2 pos : Pos} (hz : Zc cls d oe) (hf : ∃ vs, oe.data = .fields vs) (hN : X.N[i]? = some n) (hv : Vis X.env.scope n) (hn : nameB n = true) (hg : Gl X "isinstance") (hm : X.mg "isinstance" = none) (hgx : Gl X x) (hmx : X.mg x = some (.ref J)) (hx : nameB x = true) :
    PE (X.suite a ((a, oe) :: pn)) (.Call (.Name "isinstance" p) [.Name n p1, .Name x p2] [] pos) (tIsx X.K i a cls d J) := by
  obtain ⟨n1, n2, _⟩ := nameB_ok hn
  obtain ⟨x1, x2, _⟩ := nameB_ok hx
  have cr : CallR (X.suite a ((a, oe) :: pn)) (.builtin "isinstance") (fun xs H Q => xs = [.ref a, .ref J] ∧ ∃ (C : Addr) (b : Bool), cls = .ref C ∧ ExcC X.K C ∧ PySem.W.kitOne X.K (.ref C) (.ref J) = some b ∧ (d = none ∨ ∃ dd fs, d = some dd ∧ H dd = some (.xd fs)) ∧ Q (.bl b) H) := by
    intro pins s σ H xs us Q I r h
    obtain ⟨rfl, C, b, e1, EC, e, hd, q⟩ := h
    cases r with
    | @cons _ u0 _ ur ra rr =>
    cases rr with
    | @cons _ u1 _ ur2 rb rr2 =>
    cases rr2
    obtain rfl : u0 = Value.ref a := ra
    obtain rfl : u1 = Value.ref J := rb
    obtain ⟨hget, _⟩ := I.pin (a, oe) (List.mem_append_left _ List.mem_cons_self)
    obtain ⟨vs, hvs⟩ := hf
    have J2 : ∃ od, PySem.W.InstAt s.heap a oe C od := by
      rcases hd with rfl | ⟨dd, fs, rfl, ed⟩
      · exact ⟨none, hget, hz.1.trans e1, by unfold PySem.W.notCls; rw [hvs] <;> rfl, by rw [hz.2]; trivial⟩
      · have hx : ObjOk X.prog X.w H s.heap dd (.xd fs) := I.hok dd _ ed
        obtain ⟨mA, ⟨od, es, ep, ho, hr⟩, _⟩ := hx
        exact ⟨some od, hget, hz.1.trans e1, by unfold PySem.W.notCls; rw [hvs] <;> rfl, by rw [hz.2]; exact ho⟩
    obtain ⟨od, J3⟩ := J2
    have hcl : (PySem.W.clsIn X.K C).isSome = true := by
      obtain ⟨cd, h1, _⟩ := PySem.W.any_some EC.hd
      rw [h1] <;> rfl
    exact PySem.W.kia_one (PySem.W.kitx_exc (od := od) hcl EC.hg EC.hk EC.hs EC.ha EC.hn EC.ht EC.hm) I.kIn J3 e (fun z => nomatch z) fun tk => ⟨.bl b, H, I.kept (t' := tk) fun _ _ z => z, rfl, q⟩
  have pv : PE (X.suite a ((a, oe) :: pn)) (.Name n p1) (tVar i) := pe_var hN hv n1 n2
  have pj : PE (X.suite a ((a, oe) :: pn)) (.Name x p2) (tC (.ref J)) := pe_glob hgx hmx (show RelV (.ref J) (.ref J) from rfl) x1
  refine PE.mono (pe_callB cr hg hm (by decide +kernel) (pa_cons pv (pa_cons pj pa_nil))) fun σ H Q q => ?_
  obtain ⟨h1, q⟩ := q
  exact ⟨.ref a, h1, rfl, q⟩
end
end Ev
set_option Elab.async false
set_option linter.all false
set_option maxRecDepth 100000
set_option maxHeartbeats 4000000
namespace Ev
open PySem PySem.Spec PyProof.Rows L2
section
variable {X : Cx} {T : Ct} {c : Cc} {tb : Tab} {N : List Str} {ow : Option Scope} {sc : Scope} {W : WX} {k : Nat}
/-! ### raise -/
theorem st_rse (gd : Gd X T c tb N ow sc W k) {i j : Nat} {x m : Str} {p p2 pos pos' : Pos} (hi : tb.xc[i]? = some (x, true)) (hg : glB sc x = true) (hn : nameB x = true) : PS X (.Raise (some (.Call (.Name x p) [.Constant (.str m) j p2] [] pos)) none pos') (semS T c W (.rse i [])) := by
  obtain ⟨n1, n2, _⟩ := nameB_ok hn
  obtain ⟨a, h1, h2, h3⟩ := gd.tab.xc i x true hi
  obtain ⟨h4, h5, h6, h7⟩ := h3 rfl
  rw [← gd.hK] at h4 h5 h6 h7
  refine PS.mono (ps_raise gd.calm gd.takes (pmk_own F.excBase_ValueError h4 h2 h5 (raises_own h6 h7) (glB_ok gd.hsc hg) n1)) fun D σ H q => ?_
  obtain ⟨G0, Hf, s0, G, s, env, t, er, q⟩ := q
  exact q (.ref a) none σ G H (Sub.refl _) t er ⟨a, h1, rfl, rfl⟩
/-! ### try -/
/-- the frame of a def's body -/
structure Fm (X : Cx) : Prop where
  hs : X.stack = X.env :: X.outer
  hf : X.env.frame = some X.env.locals
theorem Gd.tr (gd : Gd X T c tb N ow sc W k) {W' : WX} {pn : List (Addr × Obj)} {xe : Value → Shared → Prop} (tk : Takes (X.tr pn xe) W') (hp : PassesOwn (model X.prog X.w) X.A X.env xe) : Gd (X.tr pn xe) T c tb N ow sc W' k where
  hN := gd.hN
  nd := gd.nd
  hsc := gd.hsc
  hK := gd.hK
  tab := gd.tab
  u := gd.u
  fn := gd.fn
  calm := gd.calm
  takes := tk
  room := gd.room
  pass := hp
theorem Gq.suite (gd : Gq X T c tb N ow sc k) {a : Addr} {pn : List (Addr × Obj)} : Gq (X.suite a pn) T c tb N ow sc k where
  hN := gd.hN
  nd := gd.nd
  hsc := gd.hsc
  hK := gd.hK
  tab := gd.tab
  u := gd.u
  fn := gd.fn
/-- raise C(e), C an own class with a reason -/
theorem st_rsx (gd : Gd X T c tb N ow sc W k) {i : Nat} {x : Str} {pl : Bool} {e : Expr} {ee : E} {p pos pos' : Pos} (hi : tb.xc[i]? = some (x, pl)) (ho : x ∈ tb.ow) (hg : glB sc x = true) (hn : nameB x = true) (hs : noStar e = true) (he : PE X e (semE T c W ee)) :
    PS X (.Raise (some (.Call (.Name x p) [e] [] pos)) none pos') (semS T c W (.rse i [ee])) := by
  obtain ⟨n1, n2, _⟩ := nameB_ok hn
  obtain ⟨C, h1, h2, O⟩ := gd.tab.ow i x pl hi ho
  rw [← gd.hK] at O
  obtain ⟨fI, fd, iC, tI, F, hb⟩ := O.fn
  have hx : Passes (L2.CX X.prog X.w) X (fun _ _ _ => False) := passes_call gd.takes fun _ _ _ _ z => z.elim
  have mk : PMk X (.Call (.Name x p) [e] [] pos) (tMkO C (spI C "reason") [] (tCons (semE T c W ee) tNil)) :=
    pmk_oex O.oex iC tI F (gd.room.mono gd.tab.k1) hb .nil hx (glB_ok gd.hsc hg) h2 (pa_cons he pa_nil (star_cons hs [] _)) n1 (star_cons hs [] _)
  refine PS.mono (ps_raise gd.calm gd.takes mk) fun D σ H q => ?_
  obtain ⟨G0, Hf, s0, G, s, env, t, er, q⟩ := q
  rw [evS] at q
  rw [Ws.sr] at q
  refine semS.one t er q fun y u G1 H1 s1 t1 r z => ?_
  obtain ⟨ky, dy⟩ := y
  cases dy with
  | str y =>
    obtain ⟨ev, lay⟩ := r.str
    subst ev
    refine ⟨by show 1 ≤ 1000; omega, fun a ha => ⟨a, .str y, rfl, upd_same, fun dx hd ne => ⟨rfl, dx, [("reason", .str y)], upd_same, by rw [upd_ne ne]; exact upd_same, by rw [upd_ne ne] at hd; exact hd, ?_⟩⟩⟩
    have hd1 : H1 dx = none := by rw [upd_ne ne] at hd; exact hd
    have eh : upd (L2.del (upd (upd (upd H1 a (exo a C none)) dx (exd dx [("reason", .str y)])) a (exo a C (some dx))) a) dx (.xd [("reason", .str y)]) = upd H1 dx (.xd [("reason", .str y)]) := by
      funext b
      by_cases hb : b = dx
      · rw [hb, upd_same, upd_same]
      · rw [upd_ne hb, upd_ne hb]
        by_cases hba : b = a
        · rw [hba, del_same, ha]
        · rw [del_ne hba, upd_ne hba, upd_ne hb, upd_ne hba]
    rw [eh]
    have z : exK T G0 Hf s0 G W ⟨i, some (.str y)⟩ env s1 := z
    refine z (.ref C) (some dx) σ G1 (upd H1 dx (.xd [("reason", .str y)])) t1.g ((t.trans t1).new hd1) ((er.step t1).step ((t.trans t1).same.new hd1)) ⟨C, h1, rfl, dx, y, rfl, upd_same, rfl, lay, ?_, ?_⟩
    · rw [← gd.hK]; exact O.xf
    · rw [← gd.hK]; exact O.no
  | _ => exact z.elim
/-- what may be said -/
def hxOk : HX → Bool
  | .fld => true
  | .pr (.int _) => true
  | .pr (.str z) => PyData.canLay0 (.str z)
  | .pr _ => false
  | .cat a b => PyData.canLay0 (.str a) && PyData.canLay0 (.str b)
  | .ifk _ a b => PyData.canLay0 (.str a) && PyData.canLay0 (.str b)
  | .iff_ _ b => PyData.canLay0 (.str b)
def hxT (tb : Tab) : HX → Prop
  | .ifk j _ _ => tb.kx = true ∧ ∃ x pl, tb.xc[j]? = some (x, pl)
  | .iff_ j _ => tb.kx = true ∧ ∃ x pl, tb.xc[j]? = some (x, pl)
  | _ => True
/-- the readings of such words -/
def hxV : D → V
  | .int i => .int i
  | .str z => .str z
  | _ => .non
def tHX (X : Cx) (T : Ct) (i : Nat) (h : HX) (a : Addr) (cls : Value) (d : Option Addr) : TS := fun D σ H => match h with
  | .fld => tFld X.K i a cls d σ H fun v H1 => D.rt v H1
  | .pr z => tFld X.K i a cls d σ H fun v H1 => ∀ p, H1 p = none → D.rt (.ref p) (upd H1 p (.tup [hxV z, v]))
  | .cat l r => tFld X.K i a cls d σ H fun v H1 => ∃ y, v = .str y ∧ l.length + y.length ≤ sizeLine ∧ (l ++ y).length + r.length ≤ sizeLine ∧ D.rt (.str (l ++ y ++ r)) H1
  | .ifk j l r => ∃ J, T.xc[j]? = some J ∧ tIsx X.K i a cls d J σ H fun v H1 => ∃ b, v = .bl b ∧ D.rt (.str (if b then l else r)) H1
  | .iff_ j r => ∃ J, T.xc[j]? = some J ∧ tIsx X.K i a cls d J σ H fun v H1 => ∃ b, v = .bl b ∧ if b then tFld X.K i a cls d σ H1 (fun v H2 => D.rt v H2) else D.rt (.str r) H1
/-- the clauses -/
inductive Hds (X : Cx) (T : Ct) (c : Cc) (tb : Tab) (sc : Scope) : List ExceptHandler → List (Nat × List S) → Prop
  | nil : Hds X T c tb sc [] []
  | cons {x : Str} {i : Nat} {pl : Bool} {b₀ : Stmt} {suite : List Stmt} {sI : List S} {np pos' : Pos} {hds : List ExceptHandler} {l : List (Nat × List S)} (hi : tb.xc[i]? = some (x, pl)) (hg : glB sc x = true) (hn : nameB x = true) (hno : hxOf sI = none)
      (hsu : ∀ (a : Addr) (pn : List (Addr × Obj)), PSs (X.suite a pn) (b₀ :: suite) (semSs T c WF sI)) (r : Hds X T c tb sc hds l) : Hds X T c tb sc (.ExceptHandler (some (.Name x np)) none (b₀ :: suite) pos' :: hds) ((i, sI) :: l)
  | named {x n : Str} {i j : Nat} {pl : Bool} {b₀ : Stmt} {suite : List Stmt} {h : HX} {np pos' : Pos} {hds : List ExceptHandler} {l : List (Nat × List S)} (hi : tb.xc[j]? = some (x, pl)) (hg : glB sc x = true) (hn : nameB x = true) (hN : X.N[i]? = some n) (hl : X.env.kindOf n = some .local) (hok : hxOk h = true)
      (hkx : hxT tb h)
      (hsu : ∀ (a : Addr) (oe : Obj) (cls : Value) (d : Option Addr) (pn : List (Addr × Obj)), Zc cls d oe → (∃ vs, oe.data = .fields vs) → PSs (X.suite a ((a, oe) :: pn)) (b₀ :: suite) (tHX X T i h a cls d)) (r : Hds X T c tb sc hds l) :
      Hds X T c tb sc (.ExceptHandler (some (.Name x np)) (some n) (b₀ :: suite) pos' :: hds) ((j, [.hx i h]) :: l)
/-- what is said comes to the end of the frame -/
theorem hx_end (gd : Gd X T c tb N ow sc W k) {DE : Ends} {i : Nat} {h : HX} {n : Str} {x : Exn} {C a : Addr} {d : Option Addr} {G0 Hf G G' H' : Hp} {s0 s : Sg} {σ' : L2.St} {e : Env} {nx bk ct : Env → Sg → Prop} {ex : Exn → Env → Sg → Prop} (hok : hxOk h = true) (hkx : hxT tb h)
    (hN : X.N[i]? = some n) (z : Ws (hxR c.sb h x s) nx bk ct (rtK T G0 Hf s0 G DE.rt) ex) (sb : Sub G G') (t : Stp T G0 Hf s0 G' H' s) (er : ER T Hf G' H' e σ') (xr : XR T x (.ref C) d H') (lt : i < σ'.length) : tHX X T i h a (.ref C) d (offI i DE) (σ'.set i (some (.ref a))) H' := by
  obtain ⟨a0, x1, e0, x3⟩ := xr
  cases e0
  have slot : (σ'.set i (some (V.ref a)))[i]? = some (some (.ref a)) := List.getElem?_set_self lt
  have fld : ∀ {y : D} {Q : VK}, x.f = some y → (∀ z, y = .str z → PyData.canLay0 (.str z) = true → Q (.str z) H') → tFld X.K i a (.ref C) d (σ'.set i (some (.ref a))) H' Q := fun {y Q} ey k => by
    rw [ey] at x3
    obtain ⟨dd, z', e1, e2, e3, e4, e5, e6⟩ := x3
    exact ⟨slot, C, dd, .str z', rfl, by rw [gd.hK]; exact e5, by rw [gd.hK]; exact e6, e1, e2, k z' e3 e4⟩
  have kd : d = none ∨ ∃ dd fs, d = some dd ∧ H' dd = some (.xd fs) := by
    cases ef : x.f with
    | none => rw [ef] at x3; exact .inl x3
    | some y =>
      rw [ef] at x3
      obtain ⟨dd, z', e1, e2, _⟩ := x3
      exact .inr ⟨dd, _, e1, e2⟩
  have isx : ∀ {j : Nat} {Q : VK}, (tb.kx = true ∧ ∃ x pl, tb.xc[j]? = some (x, pl)) → Q (.bl (c.sb.contains (x.c, j))) H' → ∃ J, T.xc[j]? = some J ∧ tIsx X.K i a (.ref C) d J (σ'.set i (some (.ref a))) H' Q := fun {j Q} ⟨h1, xJ, pJ, h2⟩ q => by
    obtain ⟨J, j1, _⟩ := gd.tab.xc j xJ pJ h2
    obtain ⟨k1, k2⟩ := gd.tab.kx h1 _ _ x1
    exact ⟨J, j1, slot, C, _, rfl, by rw [gd.hK]; exact k1, by rw [gd.hK]; exact k2 j J j1, kd, q⟩
  unfold hxR at z
  cases e4 : hxD c.sb x h with
  | none => rw [e4] at z; exact z.elim
  | some r =>
    rw [e4] at z
    have z : rtK T G0 Hf s0 G DE.rt (.sh, r) s := z
    cases h with
    | fld =>
      exact fld (show x.f = some r from e4) fun y ey lay => z _ G' H' sb t (by rw [ey]; exact RD.str y lay)
    | pr z0 =>
      obtain ⟨y, ey, rfl⟩ := Option.map_eq_some_iff.mp (show x.f.map (fun d => D.tup [z0, d]) = some r from e4)
      show tFld X.K i a (.ref C) d (σ'.set i (some (.ref a))) H' fun v H1 => ∀ p, H1 p = none → DE.rt (.ref p) (upd H1 p (.tup [hxV z0, v]))
      refine fld ey fun w ew lay p hp => z _ (upd G' p (.tup [hxV z0, .str w])) _ (sb.trans (Sub.upd ?_)) (t.newG hp) ?_
      · cases q : G' p with
        | none => rfl
        | some u => rw [t.s _ _ q] at hp; cases hp
      · subst ew
        refine RD.tup (.of upd_same) (.cons ?_ (.cons (RD.str w lay) .nil))
        cases z0 with
        | int v => exact RD.int v
        | str v => exact RD.str v hok
        | _ => cases hok
    | cat l r0 =>
      have e5 : (match x.f with
        | some (.str y) => if l.length + y.length ≤ sizeLine ∧ (l ++ y).length + r0.length ≤ sizeLine then some (D.str (l ++ y ++ r0)) else none
        | _ => none) = some r := e4
      cases ef : x.f with
      | none => rw [ef] at e5; cases e5
      | some y =>
        rw [ef] at e5
        cases y with
        | str y =>
          dsimp only at e5
          split at e5
          · rename_i hl
            cases e5
            obtain ⟨k1, k2⟩ := ba2 hok
            show tFld X.K i a (.ref C) d (σ'.set i (some (.ref a))) H' fun v H1 => ∃ y, v = .str y ∧ l.length + y.length ≤ sizeLine ∧ (l ++ y).length + r0.length ≤ sizeLine ∧ DE.rt (.str (l ++ y ++ r0)) H1
            refine fld ef fun w ew lay => ?_
            cases ew
            exact ⟨y, rfl, hl.1, hl.2, z _ G' H' sb t (RD.str _ (strOk_app (strOk_app k1 lay) k2))⟩
          · cases e5
        | _ => cases e5
    | ifk j l r0 =>
      cases (show some (D.str (if c.sb.contains (x.c, j) then l else r0)) = some r from e4)
      obtain ⟨k1, k2⟩ := ba2 hok
      refine isx hkx ⟨_, rfl, z _ G' H' sb t ?_⟩
      cases c.sb.contains (x.c, j) with
      | true => exact RD.str _ k1
      | false => exact RD.str _ k2
    | iff_ j r0 =>
      have e5 : (if c.sb.contains (x.c, j) then x.f else some (D.str r0)) = some r := e4
      refine isx hkx ⟨_, rfl, ?_⟩
      cases hb : c.sb.contains (x.c, j) with
      | true =>
        rw [hb, if_pos rfl] at e5
        rw [if_pos rfl]
        exact fld e5 fun y ey lay => z _ G' H' sb t (by rw [ey]; exact RD.str y lay)
      | false =>
        rw [hb, if_neg Bool.false_ne_true] at e5
        cases e5
        rw [if_neg Bool.false_ne_true]
        exact z _ G' H' sb t (RD.str _ hok)
theorem hds_many (gd : Gd X T c tb N ow sc W k) : ∀ {hds : List ExceptHandler} {l : List (Nat × List S)}, Hds X T c tb sc hds l → ∃ L, HdM X hds L ∧ ∀ (D : Ends) {x : Exn} {e : Env} {s : Sg} {G0 Hf G : Hp} {s0 : Sg},
    Ws (evH c l x e s) (nxK T G0 Hf s0 G D.nx) (nxK T G0 Hf s0 G D.bk) (nxK T G0 Hf s0 G D.ct) (rtK T G0 Hf s0 G D.rt) (exK T G0 Hf s0 G W) → exK T G0 Hf s0 G (wMix X.K W D L) x e s
  | _, _, .nil => ⟨[], .nil, fun D {x e s G0 Hf G s0} q => q⟩
  | _, _, .cons (x := xn) (i := i) (sI := sI) (l := l) hi hg hn hno hsu r => by
    obtain ⟨L, h, q⟩ := hds_many gd r
    obtain ⟨n1, n2, n3⟩ := nameB_ok hn
    obtain ⟨b, h1, h2, _⟩ := gd.tab.xc i xn _ hi
    refine ⟨(.ref b, none, fun _ _ _ => semSs T c WF sI) :: L, .anon ⟨glB_ok gd.hsc hg, n1, .inl h2⟩ (fun a oe cls d pn _ _ => hsu a _) h, fun D {x e s G0 Hf G s0} z cls d σ' G' H' sb t er xr => ?_⟩
    obtain ⟨a, x1, rfl, x3⟩ := xr
    refine ⟨c.sb.contains (x.c, i), by rw [gd.hK]; exact gd.tab.sb _ _ _ _ x1 h1, fun hb _ _ => ?_, fun hb => ?_⟩
    · have z : Ws (if c.sb.contains (x.c, i) = true then (match hxOf sI with
        | some h => hxR c.sb h x s
        | none => noExS (evSs c sI e s)) else evH c l x e s) _ _ _ _ _ := z
      rw [if_pos hb, hno] at z
      dsimp only at z
      refine ⟨G0, Hf, s0, G', s, e, t, er, ?_⟩
      cases e4 : evSs c sI e s with
      | nx e5 s5 => rw [e4] at z; exact nxK.wide (P := D.nx) z sb
      | bk e5 s5 => rw [e4] at z; exact nxK.wide (P := D.bk) z sb
      | ct e5 s5 => rw [e4] at z; exact nxK.wide (P := D.ct) z sb
      | rt x5 s5 => rw [e4] at z; exact rtK.wide z sb
      | ex x5 e5 s5 => rw [e4] at z; exact z.elim
      | stk => rw [e4] at z; exact z.elim
    · have z : Ws (if c.sb.contains (x.c, i) = true then (match hxOf sI with
        | some h => hxR c.sb h x s
        | none => noExS (evSs c sI e s)) else evH c l x e s) _ _ _ _ _ := z
      rw [hb, if_neg Bool.false_ne_true] at z
      exact q D z (.ref a) d σ' G' H' sb t er ⟨a, x1, rfl, x3⟩
  | _, _, .named (x := xn) (n := n) (i := i) (j := j) (h := hx) (l := l) hi hg hn hN hl hok hkx hsu r => by
    obtain ⟨L, h, q⟩ := hds_many gd r
    obtain ⟨n1, n2, n3⟩ := nameB_ok hn
    obtain ⟨b, h1, h2, _⟩ := gd.tab.xc j xn _ hi
    refine ⟨(.ref b, some i, tHX X T i hx) :: L, .named ⟨glB_ok gd.hsc hg, n1, .inl h2⟩ hN hl hsu h, fun D {x e s G0 Hf G s0} z cls d σ' G' H' sb t er xr => ?_⟩
    have xr0 := xr
    obtain ⟨a, x1, rfl, x3⟩ := xr
    refine ⟨c.sb.contains (x.c, j), by rw [gd.hK]; exact gd.tab.sb _ _ _ _ x1 h1, fun hb a' _ lt => ?_, fun hb => ?_⟩
    · have z : Ws (if c.sb.contains (x.c, j) = true then hxR c.sb hx x s else evH c l x e s) _ _ _ _ _ := z
      rw [if_pos hb] at z
      exact hx_end gd hok hkx hN z sb t er xr0 lt
    · have z : Ws (if c.sb.contains (x.c, j) = true then hxR c.sb hx x s else evH c l x e s) _ _ _ _ _ := z
      rw [hb, if_neg Bool.false_ne_true] at z
      exact q D z (.ref a) d σ' G' H' sb t er xr0
theorem st_try (gd : Gd X T c tb N ow sc W k) (fm : Fm X) {body : List Stmt} {h₀ : ExceptHandler} {hds : List ExceptHandler} {pos : Pos} {b : List S} {l : List (Nat × List S)}
    (hb : ∀ (W' : WX) (pn : List (Addr × Obj)) (xe : Value → Shared → Prop), Gd (X.tr pn xe) T c tb N ow sc W' k → PSs (X.tr pn xe) body (semSs T c W' b)) (hh : Hds X T c tb sc (h₀ :: hds) l) : PS X (.Try body (h₀ :: hds) [] [] pos) (semS T c W (.try_ b l)) := by
  obtain ⟨L, h, q⟩ := hds_many gd hh
  refine PS.mono (ps_try_mix (tb := fun W' => semSs T c W' b) fm.hs fm.hf gd.nd gd.takes (fun W' pn xe tk hp => hb W' pn xe (gd.tr tk hp)) h) fun D σ H z => ?_
  obtain ⟨G0, Hf, s0, G, s, env, t, er, z⟩ := z
  refine ⟨G0, Hf, s0, G, s, env, t, er, ?_⟩
  rw [evS] at z
  cases e4 : evSs c b env s with
  | nx e5 s5 => rw [e4] at z; exact z
  | bk e5 s5 => rw [e4] at z; exact z
  | ct e5 s5 => rw [e4] at z; exact z
  | rt x5 s5 => rw [e4] at z; exact z
  | ex x5 e5 s5 => rw [e4] at z; exact q D z
  | stk => rw [e4] at z; exact z.elim
end
end Ev
set_option Elab.async false
set_option linter.all false
set_option maxRecDepth 100000
set_option maxHeartbeats 4000000
namespace Ev
open PySem PySem.Spec PyProof.Rows L2
/-! ### names and places at once: a, b[i] = x, y -/
def semP (X : Ct) (c : Cc) (W : WX) (ts : List (Nat × List E)) : TGs := fun vs σ H Q => ∃ (G0 Hf : Hp) (s0 : Sg) (G : Hp) (s : Sg) (env : Env) (ds : List D), Stp X G0 Hf s0 G H s ∧ ER X Hf G H env σ ∧ RDs X.K X.ad G vs ds ∧
  Ws (tgsV c ts ds env s) (nxK X G0 Hf s0 G Q) (fun _ _ => False) (fun _ _ => False) (fun _ _ => False) (exK X G0 Hf s0 G W)
section
variable {X : Cx} {T : Ct} {c : Cc} {tb : Tab} {N : List Str} {ow : Option Scope} {sc : Scope} {W : WX} {k : Nat}
theorem p_nil : PGs X [] (semP T c W []) := by
  refine PGs.mono pgs_nil fun vs σ H Q q => ?_
  obtain ⟨G0, Hf, s0, G, s, env, ds, t, er, r, q⟩ := q
  cases r with
  | nil => exact ⟨rfl, q σ G H (Sub.refl _) t er⟩
  | cons _ _ => exact q.elim
theorem p_nm (gd : Gd X T c tb N ow sc W k) {i : Nat} {x : Str} {pos : Pos} {es : List Expr} {ts : List (Nat × List E)} (hi : eqOS N[i]? x = true) (hl : locB sc x = true) (ho : ownB ow x = true) (h : PGs X es (semP T c W ts)) : PGs X (.Name x pos :: es) (semP T c W ((i, []) :: ts)) := by
  refine PGs.mono (pgs_cons (pg_name (i := i) gd.nd (by rw [gd.hN]; exact eqOS_ok hi) (by rw [gd.hsc]; exact locB_ok hl) (gd.fn x ho)) h (by rw [asgEach_cons rfl]; rfl)) fun vs σ H Q q => ?_
  obtain ⟨G0, Hf, s0, G, s, env, ds, t, er, r, q⟩ := q
  cases r with
  | nil => exact q.elim
  | cons r rr =>
    rw [tgsV] at q
    exact ⟨_, _, rfl, G0, Hf, s0, G, s, _, _, t, er.put r i, rr, q⟩
theorem set_core {G0 Hf G H : Hp} {s0 s s3 : Sg} {env e3 : Env} {σ : L2.St} {i : Nat} {v u w : V} {kj : Kd} {dj d : D} {Hx : Hp} {P : Hp → Prop} (t : Stp T G0 Hf s0 G H s) (er : ER T Hf G H env σ) (hσ : σ[i]? = some (some v)) (ru : RD T.K T.ad G u d) (rj : RV T Hf Hx G H (kj, dj) w)
    (e : setV i dj (.sh, d) env s = some (e3, s3)) (z : ∀ H', Stp T G0 Hf s0 G H' s3 → ER T Hf G H' e3 σ → P H') : rSetL v w u H P := by
  cases he : env[i]? with
  | none => unfold setV at e; rw [he] at e; exact nomatch e
  | some y => cases y with
    | none => unfold setV at e; rw [he] at e; exact nomatch e
    | some y =>
      obtain ⟨o, d0⟩ := y
      cases o with
      | true =>
        obtain ⟨a, xs, l, k1, k2, k3, k4, k5, k6, k7⟩ := er.ow i d0 he
        subst k2
        rw [hσ] at k1; cases k1
        cases dj with
        | int m =>
          have e4 : ((ixN l.length m).bind fun m => (keep (Kd.sh, d)).map fun d => (env.set i (some (true, .lst (l.set m d))), s)) = some (e3, s3) := by
            have := e
            unfold setV at this
            rw [he] at this
            exact this
          obtain ⟨n, e5, e6⟩ := Option.bind_eq_some_iff.mp e4
          obtain ⟨d', e7, e8⟩ := Option.map_eq_some_iff.mp e6
          cases e7
          cases e8
          obtain ⟨t5, er5⟩ := own_upd t er he hσ (k6.set ru n)
          exact ⟨_, xs, m, n, rfl, rj.int, k3, by rw [k6.length]; exact e5, z _ t5 er5⟩
        | _ => unfold setV at e; rw [he] at e; exact nomatch e
      | false =>
        obtain ⟨v', h1, h2⟩ := er.sh i d0 he
        rw [hσ] at h1; cases h1
        cases d0 with
        | drw =>
          cases h2 with
          | drw had =>
            rename_i a
            obtain ⟨dd, f1, f2, f3, f4⟩ := t.r.at_ had
            subst f1
            cases dj with
            | int m =>
              cases d with
              | int y =>
                have e5 : (if m = 1 then some (env, some { dd with p := y }) else if m = 2 then some (env, some { dd with r := y }) else if m = 3 then some (env, some { dd with s := y }) else none) = some (e3, s3) := by
                  have := e
                  unfold setV at this
                  rw [he] at this
                  exact this
                have mk : ∀ (n : Nat) (d' : Drw), d'.c = dd.c → ixN 4 m = some n → ([.ref T.cd, .int dd.p, .int dd.r, .int dd.s] : List V).set n u = [.ref T.cd, .int d'.p, .int d'.r, .int d'.s] → (env, some d') = (e3, s3) → rSetL (.ref a) w u H P := fun n d' hc hn hl hz => by
                  cases hz
                  refine ⟨a, _, m, n, rfl, rj.int, f3, hn, ?_⟩
                  rw [hl]
                  refine z _ (t.turn had hc) ⟨er.len, er.sh, fun j d q => ?_, er.ne⟩
                  obtain ⟨b, zs, es, g1, g2, g3, g4, g5, g6, g7⟩ := er.ow j d q
                  have nb : b ≠ a := fun q => g5 (by rw [had, q])
                  exact ⟨b, zs, es, g1, g2, by rw [upd_ne nb]; exact g3, g4, g5, g6, g7⟩
                have hu : u = .int y := by cases ru; rfl
                split at e5
                · rename_i hm; subst hm; subst hu
                  exact mk 1 { dd with p := y } rfl rfl rfl (Option.some.inj e5)
                · split at e5
                  · rename_i hm; subst hm; subst hu
                    exact mk 2 { dd with r := y } rfl rfl rfl (Option.some.inj e5)
                  · split at e5
                    · rename_i hm; subst hm; subst hu
                      exact mk 3 { dd with s := y } rfl rfl rfl (Option.some.inj e5)
                    · cases e5
              | _ => unfold setV at e; rw [he] at e; exact nomatch e
            | _ => unfold setV at e; rw [he] at e; exact nomatch e
        | _ => unfold setV at e; rw [he] at e; cases dj <;> exact nomatch e
theorem p_sub (gd : Gd X T c tb N ow sc W k) {i : Nat} {x : Str} {a : Expr} {ea : E} {px ps : Pos} {es : List Expr} {ts : List (Nat × List E)} (hi : eqOS N[i]? x = true) (hv : visB sc x = true) (hn : nameB x = true) (hs : noSlice a = true) (ha : PE X a (semE T c W ea)) (h : PGs X es (semP T c W ts)) :
    PGs X (.Subscript (.Name x px) a ps :: es) (semP T c W ((i, [ea]) :: ts)) := by
  refine PGs.mono (pgs_cons (pg_sub (pe_slot gd hi hv hn) ha set_list (by intro v; cases a <;> first | rfl | cases hs)) h (by rw [asgEach_cons rfl]; rfl)) fun vs σ H Q q => ?_
  obtain ⟨G0, Hf, s0, G, s, env, ds, t, er, r, q⟩ := q
  cases r with
  | nil => exact q.elim
  | cons r rr =>
    rw [tgsV] at q
    split at q
    · rename_i hb
      rw [Ws.sr] at q
      have hσ : ∃ v, σ[i]? = some (some v) := by
        cases he : env[i]? with
        | none => rw [he] at hb; cases hb
        | some w => cases w with
          | none => rw [he] at hb; cases hb
          | some w =>
            obtain ⟨o, d⟩ := w
            cases o with
            | false => obtain ⟨v, h1, _⟩ := er.sh i d he; exact ⟨v, h1⟩
            | true => obtain ⟨a, _, _, h1, _⟩ := er.ow i d he; exact ⟨_, h1⟩
      obtain ⟨v, hσ⟩ := hσ
      refine ⟨_, _, rfl, v, hσ, semS.one t er q fun j w G2 H2 s2 t2 rj z => ?_⟩
      obtain ⟨kj, dj⟩ := j
      cases e2 : setV i dj (.sh, _) env s2 with
      | none => rw [e2] at z; exact z.elim
      | some y =>
        obtain ⟨e3, s3⟩ := y
        rw [e2] at z
        refine set_core (t.trans t2) (er.step t2) hσ (r.mono t2.g) rj e2 fun H' t5 er5 => ?_
        exact ⟨G0, Hf, s0, G2, s3, e3, _, t5, er5, rr.mono t2.g, Ws.imp z (fun _ _ y => y.wide t2.g) (fun _ _ y => y) (fun _ _ y => y) (fun _ _ y => y) fun _ _ _ y => y.wide t2.g⟩
    · exact q.elim
theorem st_psub (gd : Gd X T c tb N ow sc W k) {es : List Expr} {vs : List Expr} {j j2 : Nat} {p p2 pos : Pos} {ees : List E} {ts : List (Nat × List E)} (hst : es.all noStar = true) (hlen : es.length = ts.length) (hw : swappedStores [.Tuple es j p] (.Tuple vs j2 p2) X.env = pure none) (he : PA X vs (semA T c W ees)) (hg : PGs X es (semP T c W ts)) :
    PS X (.Assign [.Tuple es j p] (.Tuple vs j2 p2) pos) (semS T c W (.psub ts ees)) :=
  PS.mono (ps_asg (s_tup he) (pg_tup (n := ts.length) gd.calm hg (by rw [asgEach_len hst, hlen]) (asgEach_plain hst)) (noSwap_tup _ _) hw) fun D σ H q => by
    obtain ⟨G0, Hf, s0, G, s, env, t, er, q⟩ := q
    rw [evS, Ws.sr] at q
    refine semS.one t er q fun x u G1 H1 s1 t1 r z => ?_
    obtain ⟨kx, dx⟩ := x
    cases dx with
    | tup ds =>
      have z : Ws (if ds.length = ts.length then tgsV c ts ds env s1 else .stk) (nxK T G0 Hf s0 G D.nx) (nxK T G0 Hf s0 G D.bk) (nxK T G0 Hf s0 G D.ct) (rtK T G0 Hf s0 G D.rt) (exK T G0 Hf s0 G W) := z
      split at z
      case isFalse => exact z.elim
      rename_i hds
      obtain ⟨a, xs, e1, h1, r1⟩ := r.tup
      have lt : ∀ {ts : List (Nat × List E)} {ds : List Ev.D} {env : Env} {s : Sg} {nx bk ct : Env → Sg → Prop} {rt : VD → Sg → Prop} {ex : Exn → Env → Sg → Prop}, Ws (tgsV c ts ds env s) nx bk ct rt ex → (∀ x e s, ex x e s → True) → Ws (tgsV c ts ds env s) nx (fun _ _ => False) (fun _ _ => False) (fun _ _ => False) ex := fun {ts} => by
        induction ts with
        | nil => intro ds env s nx bk ct rt ex h _; cases ds with
          | nil => exact h
          | cons _ _ => exact h.elim
        | cons t ts ih =>
          intro ds env s nx bk ct rt ex h k
          obtain ⟨i, es⟩ := t
          cases ds with
          | nil => exact h.elim
          | cons d ds =>
            cases es with
            | nil => rw [tgsV] at h ⊢; exact ih h k
            | cons e es => cases es with
              | cons _ _ => exact h.elim
              | nil =>
                rw [tgsV] at h ⊢
                split at h
                · rename_i hb
                  rw [if_pos hb, Ws.sr]
                  rw [Ws.sr] at h
                  refine h.imp (fun y s2 q => ?_) fun _ _ q => q
                  cases e2 : setV i y.2 (.sh, d) env s2 with
                  | none => rw [e2] at q; exact q.elim
                  | some w => rw [e2] at q; exact ih q k
                · exact h.elim
      refine ⟨a, xs, e1, by rw [gd.hK]; exact t1.s.sqT h1, ?_, G0, Hf, s0, G1, s1, env, ds, t.trans t1, er.step t1, r1, ?_⟩
      · rw [r1.length]; exact hds
      · exact Ws.imp (lt z fun _ _ _ _ => trivial) (fun _ _ y => y.wide t1.g) (fun _ _ y => y) (fun _ _ y => y) (fun _ _ y => y) fun _ _ _ y => y.wide t1.g
    | _ => exact z.elim
/-! ### a tuple display at names, four and more: no swap, the tuple is made and taken apart -/
def nG (is : List Nat) : TGs := fun vs σ H Q => vs.length = is.length ∧ Q (setAll σ is vs) H
theorem gsN_nil : PGs X [] (nG []) := PGs.mono pgs_nil fun vs σ H Q q => by
  obtain ⟨l, q⟩ := q
  have : vs = [] := List.eq_nil_of_length_eq_zero l
  subst this
  exact ⟨rfl, q⟩
theorem gsN_cons (gd : Gd X T c tb N none sc W k) {x : Str} {p : Pos} {i : Nat} {es : List Expr} {is : List Nat} (hi : eqOS N[i]? x = true) (hl : locB sc x = true) (h' : PGs X es (nG is)) : PGs X (.Name x p :: es) (nG (i :: is)) := by
  refine PGs.mono (pgs_cons (pg_name (i := i) gd.nd (by rw [gd.hN]; exact eqOS_ok hi) (by rw [gd.hsc]; exact locB_ok hl) (gd.fn x rfl)) h' (by rw [asgEach_cons rfl]; rfl)) fun vs σ H Q q => ?_
  obtain ⟨l, q⟩ := q
  cases vs with
  | nil => cases l
  | cons v r => exact ⟨v, r, rfl, Nat.succ.inj l, q⟩
theorem asgVs_len : ∀ {is : List Nat} {xs : List VD} {env e1 : Env}, asgVs (is.map .nm) xs env = some e1 → xs.length = is.length := fun {is} => by
  induction is with
  | nil => intro xs env e1 h; cases xs with
    | nil => rfl
    | cons _ _ => cases h
  | cons i is ih => intro xs env e1 h; cases xs with
    | nil => cases h
    | cons x xs =>
      have h : (asgV (.nm i) x env).bind (fun e => asgVs (is.map .nm) xs e) = some e1 := h
      obtain ⟨e2, _, h⟩ := Option.bind_eq_some_iff.mp h
      rw [List.length_cons, List.length_cons, ih h]
theorem st_parN (gd : Gd X T c tb N ow sc W k) {es vs : List Expr} {j j2 : Nat} {p p2 pos : Pos} {ees : List E} {is : List Nat} (hst : es.all noStar = true) (hlen : es.length = is.length) (h9 : is.length ≤ 1000) (hw : swappedStores [.Tuple es j p] (.Tuple vs j2 p2) X.env = pure none) (he : PA X vs (semA T c W ees)) (hg : PGs X es (nG is)) :
    PS X (.Assign [.Tuple es j p] (.Tuple vs j2 p2) pos) (semS T c W (.par (is.map .nm) ees)) :=
  PS.mono (ps_asg (pe_tup he) (pg_tup (n := is.length) gd.calm hg (by rw [asgEach_len hst, hlen]) (asgEach_plain hst)) (noSwap_tup _ _) hw) fun D σ H q => by
    obtain ⟨G0, Hf, s0, G, s, env, t, er, q⟩ := q
    rw [evS, Ws.sr] at q
    refine semA.one t er (q.imp (fun _ _ z => z) fun x s' z => z.w t er) fun xs us G1 H1 s1 t1 rs z => ?_
    cases e : asgVs (is.map .nm) xs env with
    | none => rw [e] at z; exact z.elim
    | some e1 =>
      rw [e] at z
      have l1 : us.length = is.length := by rw [rs.length, asgVs_len e]
      refine ⟨by rw [l1]; exact line1000 h9, fun a hp => ⟨a, us, rfl, .inl (.inl upd_same), l1, l1, ?_⟩⟩
      have t2 : Stp T G H s G1 (upd H1 a (.tup us)) s1 := t1.new hp
      have t3 : Stp T G1 H1 s1 G1 (upd H1 a (.tup us)) s1 := t1.same.new hp
      exact z _ G1 _ t1.g (t.trans t2) (stores (er.step t2) (rs.step t3) (fun j d a q1 q2 => er.owned j d a q1 q2) e)
end
end Ev
set_option Elab.async false
set_option linter.all false
set_option maxRecDepth 100000
set_option maxHeartbeats 1000000
namespace Ev
open PySem PySem.Spec PyProof.Rows L2
/-! ### a display of texts, looked up at once: {"a": x, "b": y}[z] -/
section
variable {X : Cx} {T : Ct} {c : Cc} {tb : Tab} {N : List Str} {ow : Option Scope} {sc : Scope} {W : WX} {k : Nat}
def kS (z : Str) : TE := fun _ H Q => Q (.str z) H
theorem tPairs_ok {Hf : Hp} {env : Env} {σ : L2.St} {s0 : Sg} {G0 : Hp} : ∀ (ks : List Str) (ees : List E), ks.length = ees.length → ∀ {G H : Hp} {s : Sg} {R : List (V × V) → Hp → Prop} {f : List VD → Sg → Prop}, Stp T G0 Hf s0 G H s → ER T Hf G H env σ → Wp (evEs c ees env s) f (exW T W σ G H s) →
    (∀ xs us G1 H1 s1, Stp T G H s G1 H1 s1 → RVs T Hf H G1 H1 xs us → f xs s1 → us.length = ks.length → R ((ks.map V.str).zip us) H1) → tPairs ((ks.map kS).zip (ees.map (semE T c W))) σ H R := by
  intro ks
  induction ks with
  | nil =>
    intro ees hl G H s R f t er h kk
    cases ees with
    | nil => exact kk [] [] G H s t.same trivial h rfl
    | cons _ _ => cases hl
  | cons z ks ih =>
    intro ees hl G H s R f t er h kk
    cases ees with
    | nil => cases hl
    | cons e ees =>
      have h : Wp (evE c e env s) (fun x s1 => Wp (evEs c ees env s1) (fun xs s2 => f (x :: xs) s2) (exW T W σ G H s)) (exW T W σ G H s) := by
        rw [evEs, Wp.bind] at h
        exact h.imp (fun x s1 q => by rw [Wp.bind] at q; exact q) fun _ _ q => q
      show semE T c W e σ H fun y H2 => tPairs ((ks.map kS).zip (ees.map (semE T c W))) σ H2 fun ps H3 => R ((V.str z, y) :: ps) H3
      refine semE.one t er h fun x u G1 H1 s1 t1 r1 q => ?_
      refine ih ees (Nat.succ.inj hl) (t.trans t1) (er.step t1) (q.imp (fun _ _ z => z) fun _ _ z => z.step t1) fun xs us G2 H2 s2 t2 rs hf ln => ?_
      refine kk (x :: xs) (u :: us) G2 H2 s2 (t1.trans t2) ⟨r1.step t2, H1, t1.n, fun a e1 e2 e3 => ?_, rs⟩ hf (by rw [List.length_cons, List.length_cons, ln])
      obtain ⟨kx, dx⟩ := x
      cases kx with
      | sh => exact e2 rfl
      | lo => obtain ⟨b, ys, ds, k1, k2, k3, _⟩ := r1; rw [e1] at k1; cases k1; rw [k3] at e3; cases e3
      | fr => obtain ⟨b, ys, ds, k1, k2, k3, _⟩ := r1; rw [e1] at k1; cases k1; rw [k3] at e3; cases e3
/-- what stands in such a display -/
theorem val_merge : ∀ (more kvs : List (Key × V)) (k : Key) (v : V), (more.map (·.1)).Nodup → (k, v) ∈ more → valV (mergeK kvs more) k = some v
  | [], _, _, _, _, h => nomatch h
  | p :: r, kvs, k, v, nd, h => by
    rw [List.map_cons, List.nodup_cons] at nd
    show valV (mergeK (putK kvs p.1 p.2) r) k = some v
    rcases List.mem_cons.mp h with e | e
    · have keep : ∀ (r : List (Key × V)) (acc : List (Key × V)), k ∉ r.map (·.1) → valV acc k = some v → valV (mergeK acc r) k = some v := fun r => by
        induction r with
        | nil => intro acc _ h; exact h
        | cons q r ih =>
          intro acc hn h
          rw [List.map_cons, List.mem_cons, not_or] at hn
          refine ih _ hn.2 ?_
          rw [valV_put, if_neg hn.1]; exact h
      have e1 : k = p.1 := by rw [← e]
      have e2 : v = p.2 := by rw [← e]
      refine keep r _ (by rw [e1]; exact nd.1) ?_
      rw [valV_put, if_pos e1, e2]
    · exact val_merge r _ k v nd.2 e
def dkS : List (Option Expr) → Option (List Str)
  | [] => some []
  | some (.Constant (.str z) _ _) :: r => (dkS r).map fun l => z :: l
  | _ => none
theorem dkS_ok {pos : Pos} : ∀ {keys : List (Option Expr)} {ks : List Str}, dkS keys = some ks → keys.all (·.isSome) = true ∧ keys.length = ks.length ∧ ∀ {vals : List Expr} {ts : List TE}, vals.length = ks.length → ts.length = ks.length → (∀ (i : Nat) v t, vals[i]? = some v → ts[i]? = some t → PE X v t) → PPs X pos keys vals ((ks.map kS).zip ts)
  | [], ks, h => by
    cases h
    refine ⟨rfl, rfl, fun {vals ts} h1 h2 _ => ?_⟩
    have : vals = [] := List.eq_nil_of_length_eq_zero h1
    subst this
    exact pps_nil
  | none :: r, ks, h => by cases h
  | some e :: r, ks, h => by
    cases e <;> first | (cases h; done) | skip
    rename_i cst j p
    cases cst <;> first | (cases h; done) | skip
    rename_i z
    have h : (dkS r).map (fun l => z :: l) = some ks := h
    obtain ⟨l, h1, rfl⟩ := Option.map_eq_some_iff.mp h
    obtain ⟨a1, a2, a3⟩ := dkS_ok h1
    refine ⟨by rw [List.all_cons, a1]; rfl, by rw [List.length_cons, List.length_cons, a2], fun {vals ts} h2 h3 hv => ?_⟩
    cases vals with
    | nil => cases h2
    | cons v vals => cases ts with
      | nil => cases h3
      | cons t ts =>
        exact pps_cons pe_str (hv 0 v t rfl rfl) (a3 (Nat.succ.inj h2) (Nat.succ.inj h3) fun i v' t' q1 q2 => hv (i + 1) v' t' (by simpa using q1) (by simpa using q2))
def optAll {α β : Type} (f : α → Option β) : List α → Option (List β)
  | [] => some []
  | x :: r => (f x).bind fun y => (optAll f r).map fun l => y :: l
theorem optAll_ok {α β : Type} {f : α → Option β} : ∀ {l : List α} {m : List β}, optAll f l = some m → m.length = l.length ∧ ∀ (i : Nat) x y, l[i]? = some x → m[i]? = some y → f x = some y
  | [], m, h => by cases h; exact ⟨rfl, fun i x y h => by simp at h⟩
  | x :: r, m, h => by
    have h : ((f x).bind fun y => (optAll f r).map fun l => y :: l) = some m := h
    obtain ⟨y, h1, h⟩ := Option.bind_eq_some_iff.mp h
    obtain ⟨l, h2, rfl⟩ := Option.map_eq_some_iff.mp h
    obtain ⟨a, b⟩ := optAll_ok h2
    refine ⟨by rw [List.length_cons, List.length_cons, a], fun i u v q1 q2 => ?_⟩
    cases i with
    | zero => cases q1; cases q2; exact h1
    | succ i => exact b i u v (by simpa using q1) (by simpa using q2)
theorem noSl_ok {b : Expr} (h : noSlice b = true) : NoSl b := fun o i => by
  cases b <;> first | rfl | cases h
theorem s_dix (gd : Gq X T c tb N ow sc k) {keys : List (Option Expr)} {vals : List Expr} {b : Expr} {p pos : Pos} {ks : List Str} {evs : List E} {eb : E} (hk : dkS keys = some ks) (nd : decide ks.Nodup = true) (h15 : decide (keys.length ≤ 15) = true) (h0 : keys.isEmpty = false) (hl : vals.length = ks.length) (hl2 : evs.length = ks.length) (hv : ∀ (i : Nat) v e, vals[i]? = some v → evs[i]? = some e → PE X v (semE T c W e)) (hb : noSlice b = true) (he : PE X b (semE T c W eb)) :
    PE X (.Subscript (.Dict keys vals p) b pos) (semE T c W (.ix (.lst evs) (.mth .index (.lst (ks.map fun z => .k (.str z))) [eb]))) := by
  obtain ⟨k1, k2, k3⟩ := dkS_ok (X := X) (pos := p) hk
  have pps := k3 (vals := vals) (ts := evs.map (semE T c W)) hl (by rw [List.length_map]; exact hl2) (fun i v t q1 q2 => by
    rw [List.getElem?_map, Option.map_eq_some_iff] at q2
    obtain ⟨e, q3, rfl⟩ := q2
    exact hv i v e q1 q3)
  have h15' := of_decide_eq_true h15
  have nd' := of_decide_eq_true nd
  have u1 : X.A.units + 1 < cLine := by have := gd.u; omega
  refine PE.mono (pe_dget u1 (pe_disp pps k1 (by rw [k2, hl]) (fun z => by rw [z] at h0; cases h0) h15') he (noSl_ok hb)) fun σ H Q q => ?_
  obtain ⟨G0, Hf, s0, G, s, env, t, er, q⟩ := q
  rw [evE, Wp.bind, evE, Wp.bind] at q
  intro a ha
  have na := t.adNe ha
  have tn : Stp T G H s G (upd H a (.dK [])) s := t.same.new ha
  have ga : G a = none := by
    cases e : G a with
    | none => rfl
    | some o => have := t.s a o e; rw [ha] at this; cases this
  refine tPairs_ok ks evs hl2.symm (t.trans tn) (er.step tn) (q.imp (fun _ _ z => z) fun _ _ z => z.step tn) fun xs us G1 H1 s1 t1 rs q1 lus => ?_
  have ha1 : H1 a = some (.dK []) := t1.h a _ upd_same na
  have ga1 : G1 a = none := t1.f a ga (by rw [upd_same]; exact fun z => nomatch z)
  rw [Wp.bind] at q1
  obtain ⟨ds, e, q2⟩ := q1.lift
  obtain ⟨G2, t2, g2, r2, m2⟩ := rs.keeps (fun _ z => z) t1 e
  have ga2 : G2 a = none := m2 a ga1 (by rw [upd_same]; exact fun z => nomatch z)
  split at q2
  · rename_i hds
    -- the dict as it then lies
    let kvs : List (Key × V) := (ks.map Sum.inr).zip us
    have tH : Stp T G H s G2 (upd H1 a (.dK (mergeK [] kvs))) s1 := (tn.trans t2).transD ((t2.same.d (D := a)).put ga2 na _ (by rw [ha1]; exact fun z => nomatch z)) ha
    refine ⟨ha1, kvs, ?_, ?_, ?_⟩
    · have go : ∀ (ks : List Str) (us : List V), (ks.map V.str).zip us = ((ks.map (Sum.inr (α := Int))).zip us).map fun kv => (kV kv.1, kv.2) := fun ks => by
        induction ks with
        | nil => intro us; rfl
        | cons z ks ih => intro us; cases us with
          | nil => rfl
          | cons u us => simp only [List.map_cons, List.zip_cons_cons, ih]; rfl
      exact go ks us
    · rw [List.length_zip, List.length_map]
      omega
    · have q3 : Wp (evE c (.mth .index (.lst (ks.map fun z => .k (.str z))) [eb]) env s1) (fun y s2 => Wp (ixV (Kd.fr, D.lst ds) y s2) (fun x s' => ∀ v G' H', Stp T G H s G' H' s' → RV T Hf H G' H' x v → Q v H') (exW T W σ G H s)) (exW T W σ G H s) := by
        have this : Wp ((evE c (.mth .index (.lst (ks.map fun z => .k (.str z))) [eb]) env s1).bind fun y s2 => ixV (Kd.fr, D.lst ds) y s2) (fun x s' => ∀ v G' H', Stp T G H s G' H' s' → RV T Hf H G' H' x v → Q v H') (exW T W σ G H s) := q2
        rw [Wp.bind] at this
        exact this
      have ek : evE c (.lst (ks.map fun z => .k (.str z))) env s1 = .ok (.fr, .lst (ks.map D.str)) s1 := by
        have es : ∀ l : List Str, evEs c (l.map fun z => .k (.str z)) env s1 = .ok (l.map fun z => (Kd.sh, D.str z)) s1 := fun l => by
          induction l with
          | nil => rfl
          | cons z r ih =>
            rw [List.map_cons, evEs]
            show ((Out.ok (Kd.sh, D.str z) s1).bind _) = _
            show (evEs c (r.map fun z => .k (.str z)) env s1).bind _ = _
            rw [ih]; rfl
        have kp : ∀ l : List Str, keeps (l.map fun z => (Kd.sh, D.str z)) = some (l.map D.str) := fun l => by
          induction l with
          | nil => rfl
          | cons z r ih =>
            rw [List.map_cons, keeps]
            show (keeps (r.map fun z => (Kd.sh, D.str z))).map (D.str z :: ·) = _
            rw [ih]; rfl
        rw [evE, es]
        show (lift (keeps (ks.map fun z => (Kd.sh, D.str z))) s1).bind _ = _
        rw [kp]
        show (if (ks.map D.str).length ≤ 1000 then _ else _) = _
        rw [if_pos (by rw [List.length_map]; omega)]
      rw [evE, ek] at q3
      have q4 : Wp ((evEs c [eb] env s1).bind fun xs s2 => lift (mtD .index (.lst (ks.map D.str)) (dat xs)) s2) (fun y s2 => Wp (ixV (Kd.fr, D.lst ds) y s2) (fun x s' => ∀ v G' H', Stp T G H s G' H' s' → RV T Hf H G' H' x v → Q v H') (exW T W σ G H s)) (exW T W σ G H s) := q3
      rw [Wp.bind, evEs, Wp.bind] at q4
      refine semE.one (t.trans tH) (er.step tH) (q4.imp (fun _ _ z => z) fun _ _ z => z.step tH) fun y v G3 H3 s3 t3 ry q5 => ?_
      have q6 : Wp (lift (mtD .index (.lst (ks.map D.str)) [y.2]) s3) (fun y s2 => Wp (ixV (Kd.fr, D.lst ds) y s2) (fun x s' => ∀ v G' H', Stp T G H s G' H' s' → RV T Hf H G' H' x v → Q v H') (exW T W σ G H s)) (exW T W σ G H s) := q5
      obtain ⟨w, e1, q7⟩ := q6.lift
      have e2 : (if flatD y.2 && (ks.map D.str).all flatD then ((ks.map D.str).findIdx? fun z => eqD z y.2).map fun j => (Kd.sh, Ev.D.int (j : Nat)) else none) = some w := e1
      split at e2
      · obtain ⟨j, e3, rfl⟩ := Option.map_eq_some_iff.mp e2
        rw [List.findIdx?_eq_some_iff_getElem] at e3
        obtain ⟨lt, hz, _⟩ := e3
        rw [List.length_map] at lt
        rw [List.getElem_map] at hz
        obtain ⟨ky, dy⟩ := y
        have hy : dy = .str ks[j] := by
          cases dy <;> first | (cases hz; done) | skip
          rename_i z _ _
          have hz : (ks[j] == z) = true := hz
          rw [beq_iff_eq] at hz
          rw [hz]
        subst hy
        have hv' := ry.str.1
        subst hv'
        have lj : j < us.length := by omega
        have q8 : Wp (lift ((L2.atI ds (j : Int)).map fun d => (Kd.sh, d)) s3) (fun x s' => ∀ v G' H', Stp T G H s G' H' s' → RV T Hf H G' H' x v → Q v H') (exW T W σ G H s) := q7
        obtain ⟨x, e4, q9⟩ := q8.lift
        obtain ⟨d, e5, rfl⟩ := Option.map_eq_some_iff.mp e4
        obtain ⟨u, e6, r6⟩ := RDs.atI r2 e5
        have e7 : u = us[j] := by
          have ix : ixN us.length (j : Int) = some j := by
            unfold ixN
            rw [if_pos (by omega), if_pos (by omega), Int.toNat_natCast]
          unfold L2.atI at e6
          rw [ix] at e6
          have e6 : us[j]? = some u := e6
          rw [List.getElem?_eq_getElem lj] at e6
          exact (Option.some.inj e6).symm
        subst e7
        have ha3 : H3 a = some (.dK (mergeK [] kvs)) := t3.h a _ upd_same na
        refine ⟨a, us[j], rfl, ?_, q9 _ G3 H3 (tH.trans t3) (r6.mono t3.g)⟩
        have dg := DGet.k (k := Sum.inr ks[j]) ha3
        have mem : ((Sum.inr ks[j] : Key), us[j]) ∈ kvs := by
          rw [List.mem_iff_getElem]
          exact ⟨j, by rw [List.length_zip, List.length_map]; omega, by rw [List.getElem_zip, List.getElem_map]⟩
        have ndk : (kvs.map (·.1)).Nodup := by
          have : kvs.map (·.1) = ks.map Sum.inr := by
            show ((ks.map Sum.inr).zip us).map (·.1) = _
            exact List.map_fst_zip (by rw [List.length_map]; omega)
          rw [this]
          exact List.Pairwise.map _ (fun x y h z => h (Sum.inr.inj z)) nd'
        rw [val_merge kvs [] (Sum.inr ks[j]) us[j] ndk mem] at dg
        exact dg
      · cases e2
  · exact q2.elim
end
end Ev
set_option Elab.async false
set_option linter.all false
set_option maxRecDepth 100000
set_option maxHeartbeats 1000000
namespace Ev
open PySem PySem.Spec PyProof.Rows L2
def fnS (l : List (Str × Nat)) (x : Str) (np : Nat) : Option Nat := (l.findIdx? fun y => eqS y.1 x).bind fun i => match l[i]? with
  | some (y, m) => if eqS y x && decide (m = np) then some i else none
  | none => none
theorem fnS_ok {l : List (Str × Nat)} {x : Str} {np i : Nat} (h : fnS l x np = some i) : l[i]? = some (x, np) := by
  unfold fnS at h
  obtain ⟨j, _, h⟩ := Option.bind_eq_some_iff.mp h
  split at h
  · rename_i y m e
    split at h
    · rename_i q
      obtain ⟨q1, q2⟩ := ba2 q
      cases h
      rw [e, eqS_ok q1, of_decide_eq_true q2]
    · cases h
  · cases h
/-! ### a def out of a display, called at once: [f, g][i](..) -/
section
variable {X : Cx} {T : Ct} {c : Cc} {tb : Tab} {N : List Str} {ow : Option Scope} {sc : Scope} {W : WX} {k : Nat}
/-- the numbers of the defs that a display names -/
def selS (tb : Tab) (sc : Scope) (np : Nat) : List Expr → Option (List Nat)
  | [] => some []
  | .Name x _ :: r => if glB sc x && nameB x then (fnS tb.fn x np).bind fun i => (selS tb sc np r).map fun l => i :: l else none
  | _ => none
structure FnAt (X : Cx) (T : Ct) (c : Cc) (k np i : Nat) (v : V) : Prop where
  h : ∃ f fd ps, v = .ref f ∧ PySem.W.keepIn X.K (.ref f) = true ∧ Binds X.K fd ps [] ∧ FnOk X.prog X.w X.K X.mg X.base (L2.CX X.prog X.w) k f fd ps (spF T (c.call i) np)
theorem selS_ok (gd : Gd X T c tb N ow sc W k) {np : Nat} : ∀ {es : List Expr} {fs : List Nat}, selS tb sc np es = some fs → ∃ vs : List V, PA X es (fun _ H R => R vs H) ∧ vs.length = fs.length ∧ ∀ (j : Nat) i v, fs[j]? = some i → vs[j]? = some v → FnAt X T c k np i v
  | [], fs, h => by
    cases h
    exact ⟨[], pa_nil, rfl, fun j i v h1 h2 => by simp at h1⟩
  | e :: r, fs, h => by
    cases e <;> first | (cases h; done) | skip
    rename_i x p
    have h : (if glB sc x && nameB x then (fnS tb.fn x np).bind fun i => (selS tb sc np r).map fun l => i :: l else none) = some fs := h
    split at h
    · rename_i q
      obtain ⟨q1, q2⟩ := ba2 q
      obtain ⟨i, h1, h⟩ := Option.bind_eq_some_iff.mp h
      obtain ⟨l, h2, rfl⟩ := Option.map_eq_some_iff.mp h
      obtain ⟨vs, p1, p2, p3⟩ := selS_ok gd h2
      obtain ⟨n1, n2, n3⟩ := nameB_ok q2
      obtain ⟨f, fd, ps, g1, g2, g3, g4⟩ := gd.tab.fn i x np (fnS_ok h1)
      rw [← gd.hK] at g2 g3 g4
      refine ⟨.ref f :: vs, pa_cons (pe_glob (v := .ref f) (glB_ok gd.hsc q1) g1 rfl n1) p1, by rw [List.length_cons, List.length_cons, p2], fun j i' v k1 k2 => ?_⟩
      cases j with
      | zero => cases k1; cases k2; exact ⟨f, fd, ps, rfl, g2, g3, g4⟩
      | succ j => exact p3 j i' v (by simpa using k1) (by simpa using k2)
    · cases h
theorem pe_callV {a b e : Expr} {es : List Expr} {tf : TE} {ta : TA} {p pos : Pos} {CX : CXT} {E : L2.St → XK} (hf : PE X (.Subscript a b p) tf) (ha : PA X (e :: es) ta) (hr : Room k X.A) (hx : ∀ σ, PassesAt CX X σ (E σ))
    (he : starEach (e :: es) X.env = (false, eval e X.env) :: starEach es X.env) (hpl : (backTo pos (starEach es X.env)).any (·.1) = false) :
    PE X (.Call (.Subscript a b p) (e :: es) [] pos) (fun σ H Q => tf σ H fun v H1 => ∃ f fd ps sp, v = .ref f ∧ PySem.W.keepIn X.K (.ref f) = true ∧ Binds X.K fd ps [] ∧ FnOk X.prog X.w X.K X.mg X.base CX k f fd ps sp ∧ ta σ H1 fun vs H2 => sp vs H2 Q (E σ)) := by
  refine ⟨fun pins s σ H Q I h => ?_⟩
  show wpAny _ _ (eval (.Subscript a b p) X.env >>= fun u => callWith pos u [] (backTo pos (starEach (e :: es) X.env)) (backToKw pos (keywordEach [] X.env))) _ _ s
  refine wpAny_bind (thn (hf.run pins s σ H _ I h) fun u s1 hh => ?_)
  obtain ⟨v, H1, I1, r, f, fd, ps, sp, rfl, h1, h2, h3, q⟩ := hh
  cases r
  refine PySem.W.callWith_K (h₀ := X.base) I1.ok.mod.kin h1 (thn (ha.run pos pins s1 σ H1 _ I1 q) fun us s2 ⟨vs, H2, I2, r2, q2⟩ => ⟨I2.kIn, ?_⟩) he hpl
  exact run_fnS h3 hr h2 (hx σ) I2 r2 q2
theorem s_sel (gd : Gd X T c tb N ow sc W k) {fs : List Nat} {elts : List Expr} {b e : Expr} {es : List Expr} {eb : E} {ees : List E} {p p2 pos : Pos} (hf : selS tb sc ees.length elts = some fs) (h1k : decide (elts.length ≤ 1000) = true) (hb : noSlice b = true) (he : PE X b (semE T c W eb)) (hn : noStar e = true) (hs : es.all noStar = true) (ha : PA X (e :: es) (semA T c W ees)) :
    PE X (.Call (.Subscript (.List elts p) b p2) (e :: es) [] pos) (semE T c W (.sel fs eb ees)) := by
  obtain ⟨vs, pv, lv, at_⟩ := selS_ok gd hf
  have hl : vs.length = elts.length := by
    rw [lv]
    have : ∀ {es : List Expr} {fs : List Nat}, selS tb sc ees.length es = some fs → fs.length = es.length := fun {es} => by
      induction es with
      | nil => intro fs h; cases h; rfl
      | cons e r ih =>
        intro fs h
        cases e <;> first | (cases h; done) | skip
        rename_i x p
        have h : (if glB sc x && nameB x then (fnS tb.fn x ees.length).bind fun i => (selS tb sc ees.length r).map fun l => i :: l else none) = some fs := h
        split at h
        · obtain ⟨i, h1, h⟩ := Option.bind_eq_some_iff.mp h
          obtain ⟨l, h2, rfl⟩ := Option.map_eq_some_iff.mp h
          rw [List.length_cons, List.length_cons, ih h2]
        · cases h
    exact this hf
  refine PE.mono (pe_callV (CX := L2.CX X.prog X.w) (E := WE W) (pe_ix ix_seq (pe_lst pv) he (noSlice_ok hb)) ha gd.room (fun σ => passAt gd.takes σ) (star_cons hn _ _) (star_plain _ _ hs)) fun σ H Q q => ?_
  obtain ⟨G0, Hf, s0, G, s, env, t, er, q⟩ := q
  rw [evE, Wp.bind] at q
  refine ⟨by rw [hl]; exact line1000 (of_decide_eq_true h1k), fun a ha => ?_⟩
  have na := t.adNe ha
  have tn : Stp T G H s G (upd H a (.lst vs)) s := t.same.new ha
  refine semE.one (t.trans tn) (er.step tn) (q.imp (fun _ _ z => z) fun _ _ z => z.step tn) fun y u G1 H1 s1 t1 ry q1 => ?_
  have tt : Stp T G H s G1 H1 s1 := tn.trans t1
  obtain ⟨ky, dy⟩ := y
  cases dy <;> first | exact False.elim q1 | skip
  rename_i i
  have q1 : Wp (match L2.atI fs i with
      | some f => (evEs c ees env s1).bind fun xs s2 => if mixed xs then .stk else c.call f (xs.map settle) s2
      | none => .stk) (fun x s' => ∀ v G' H', Stp T G H s G' H' s' → RV T Hf H G' H' x v → Q v H') (exW T W σ G H s) := q1
  cases hat : L2.atI fs i with
  | none => rw [hat] at q1; exact False.elim q1
  | some f =>
    rw [hat] at q1
    have q1 : Wp ((evEs c ees env s1).bind fun xs s2 => if mixed xs then .stk else c.call f (xs.map settle) s2) (fun x s' => ∀ v G' H', Stp T G H s G' H' s' → RV T Hf H G' H' x v → Q v H') (exW T W σ G H s) := q1
    rw [Wp.bind] at q1
    have hv : ∃ v, L2.atI vs i = some v ∧ FnAt X T c k ees.length f v := by
      unfold L2.atI at hat ⊢
      rw [lv]
      cases hx : ixN fs.length i with
      | none => rw [hx] at hat; cases hat
      | some j =>
        rw [hx] at hat
        have hat : fs[j]? = some f := hat
        have lt := (List.getElem?_eq_some_iff.mp hat).1
        exact ⟨vs[j]'(by omega), List.getElem?_eq_getElem (by omega), at_ j f _ hat (List.getElem?_eq_getElem (by omega))⟩
    obtain ⟨v, hv1, ff, fd, ps, rfl, k1, k2, k3⟩ := hv
    have ha1 : H1 a = some (.lst vs) := t1.h a _ upd_same na
    refine .inl ⟨a, vs, i, .ref ff, rfl, ry.int, .of ha1, hv1, ff, fd, ps, _, rfl, k1, k2, k3, ?_⟩
    refine semA.one (t.trans tt) (er.step tt) (q1.and_eq.imp (fun _ _ z => z) fun _ _ z => z.step tt) fun xs us G2 H2 s2 t2 rs q2 => ?_
    obtain ⟨q2, e2⟩ := q2
    have hlen : us.length = ees.length := by rw [rs.length, evEs_length e2]
    split at q2
    · exact q2.elim
    · rename_i hm
      obtain ⟨G3, t3, r3, n3⟩ := rs.settled t2 (by simpa using hm)
      refine ⟨hlen, Hf, H1, G3, _, xs.map settle, t3.same, r3, n3, q2.imp (fun x s' z v G' H' u r => ?_) fun x s' z cls d G' H' u r => ?_⟩
      · exact z v G' H' ((tt.trans t3).trans u) (r.back (tt.trans t3).n fun a e => t.n a ((tt.trans t3).n a e))
      · exact z cls d G' H' ((tt.trans t3).trans u) r
end
end Ev
set_option Elab.async false
set_option linter.all false
set_option maxRecDepth 100000
set_option maxHeartbeats 4000000
namespace Ev
open PySem PySem.Spec PyProof.Rows L2
/-! ### the small syntax of a written text -/
def ixS (l : List Str) (x : Str) : Option Nat := (l.findIdx? fun y => eqS y x).bind fun i => if eqOS l[i]? x then some i else none
theorem ixS_ok {l : List Str} {x : Str} {i : Nat} (h : ixS l x = some i) : eqOS l[i]? x = true := by
  unfold ixS at h
  obtain ⟨j, _, h⟩ := Option.bind_eq_some_iff.mp h
  split at h
  · cases h; assumption
  · cases h
def hasS (l : List Str) (x : Str) : Bool := l.any fun y => eqS y x
theorem hasS_ok {l : List Str} {x : Str} (h : hasS l x = true) : x ∈ l := by
  obtain ⟨y, hy, e⟩ := List.any_eq_true.mp h
  rw [← eqS_ok e]; exact hy
def xcS (l : List (Str × Bool)) (x : Str) : Option (Nat × Bool) := (l.findIdx? fun y => eqS y.1 x).bind fun i => match l[i]? with
  | some (y, m) => if eqS y x then some (i, m) else none
  | none => none
theorem xcS_ok {l : List (Str × Bool)} {x : Str} {b : Bool} {i : Nat} (h : xcS l x = some (i, b)) : l[i]? = some (x, b) := by
  unfold xcS at h
  obtain ⟨j, _, h⟩ := Option.bind_eq_some_iff.mp h
  split at h
  · rename_i y m e
    split at h
    · rename_i q
      cases h
      rw [e, eqS_ok q]
    · cases h
  · cases h
def opOf : Operator → Option Op
  | .Add => some .add | .Sub => some .sub | .Mult => some .mul | .FloorDiv => some .fdiv | .Mod => some .mod
  | _ => none
def cmOf : CmpOp → Option Cm
  | .Eq => some .eq | .NotEq => some .ne | .Lt => some .lt | .LtE => some .le | .Gt => some .gt | .GtE => some .ge | .Is => some .is_ | .IsNot => some .isnt | .In => some .in_ | .NotIn => some .notin
theorem cmOf_ok {o : CmpOp} {m : Cm} (h : cmOf o = some m) : o = cmOp m := by cases o <;> cases h <;> rfl
def bfAll : List Bf := [.len, .abs, .int, .max, .min, .sum, .sorted, .all, .any, .tuple, .list]
def bfOf (x : Str) : Option Bf := bfAll.find? fun f => eqS (bfS f) x
theorem bfOf_ok {x : Str} {f : Bf} (h : bfOf x = some f) : x = bfS f := (eqS_ok (List.find?_some (p := fun f => eqS (bfS f) x) h)).symm
def tyAll : List Ty := [.int, .bool, .str, .tuple, .list]
def tyOf (x : Str) : Option Ty := tyAll.find? fun f => eqS (tyS f) x
theorem tyOf_ok {x : Str} {f : Ty} (h : tyOf x = some f) : x = tyS f := (eqS_ok (List.find?_some (p := fun f => eqS (tyS f) x) h)).symm
def cK : Const → Option D
  | .none => some .non
  | .bool b => some (.bl b)
  | .int i => some (.int i)
  | .str x => if PyData.canLay0 (.str x) then some (.str x) else none
  | _ => none
def tOk : Nat → Expr → Bool
  | 0, _ => false
  | n + 1, e => match e with
    | .UnaryOp .Not a _ => tOk n a
    | .BoolOp .And [a] _ => tOk n a
    | .BoolOp .And (a :: b :: r) p => tOk n a && tOk n (.BoolOp .And (b :: r) p)
    | .BoolOp .Or [a] _ => tOk n a
    | .BoolOp .Or (a :: b :: r) p => tOk n a && tOk n (.BoolOp .Or (b :: r) p)
    | .BoolOp _ _ _ => false
    | .IfExp _ _ _ _ => false
    | .Compare _ _ _ _ => true
    | _ => true
def isTup : Expr → Bool
  | .Tuple _ _ _ => true
  | _ => false
def noSet : Expr → Bool
  | .Set _ _ _ => false
  | _ => true
theorem noSet_ok {e : Expr} (h : noSet e = true) (env : PySem.Env) (x : Value) : foldedSetIterable e env x = pure x := by
  cases e <;> first | rfl | cases h
/-- the tables -/
structure Kt where
  tb : Tab
  N : List Str
def ownL (N : List Str) (scope : Scope) : List (Str × Nat) := scope.names.filterMap fun y => match y.2 with
  | .local => (ixS N y.1).map fun i => (y.1, i)
  | .cell => (ixS N y.1).map fun i => (y.1, i)
  | _ => none
mutual
/-- a target -/
def cG (kt : Kt) (ow : Option Scope) (sc : Scope) : Nat → Expr → Option Tg
  | 0, _ => none
  | n + 1, e => match e with
    | .Name x _ => if locB sc x && ownB ow x then (ixS kt.N x).map .nm else none
    | .Tuple es _ _ => if es.all noStar then (cGs kt ow sc n es).map .tu else none
    | _ => none
def cGs (kt : Kt) (ow : Option Scope) (sc : Scope) : Nat → List Expr → Option (List Tg)
  | 0, _ => none
  | n + 1, es => match es with
    | [] => some []
    | e :: r => if noStar e then (cG kt ow sc n e).bind fun t => (cGs kt ow sc n r).map fun ts => t :: ts else none
end
mutual
def cE (kt : Kt) (hot : Bool) : Nat → Scope → Expr → Option E
  | 0, _, _ => none
  | n + 1, sc, e => match e with
    | .Constant c _ _ => (cK c).map .k
    | .Name x _ => if nameB x then (if visB sc x then (ixS kt.N x).map .v else if glB sc x then (ixS kt.tb.gl x).map .g else none) else none
    | .BinOp a op b _ => (opOf op).bind fun o => (cE kt hot n sc a).bind fun ea => (cE kt hot n sc b).map fun eb => .op o ea eb
    | .UnaryOp .USub a _ => (cE kt hot n sc a).map .neg
    | .UnaryOp .Not a _ => (cE kt hot n sc a).map .not_
    | .BoolOp .And [a] _ => cE kt hot n sc a
    | .BoolOp .And (a :: b :: r) p => (cE kt hot n sc a).bind fun ea => (cE kt hot n sc (.BoolOp .And (b :: r) p)).map fun eb => .and_ ea eb
    | .BoolOp .Or [a] _ => cE kt hot n sc a
    | .BoolOp .Or (a :: b :: r) p => (cE kt hot n sc a).bind fun ea => (cE kt hot n sc (.BoolOp .Or (b :: r) p)).map fun eb => .or_ ea eb
    | .IfExp t a b _ => if tOk n t then (cE kt hot n sc t).bind fun et => (cE kt hot n sc a).bind fun ea => (cE kt hot n sc b).map fun eb => .ite et ea eb else none
    | .Compare a [op] [b] _ => if behindInMarks op b then none else (cmOf op).bind fun o => (cE kt hot n sc a).bind fun ea => (cE kt hot n sc b).map fun eb => .cmp o ea eb
    | .Compare a [op, op'] [b, d] _ => if lastMarks [op, op'] [b, d] then none else (cmOf op).bind fun o => (cmOf op').bind fun o' => (cE kt hot n sc a).bind fun ea => (cE kt hot n sc b).bind fun eb => (cE kt hot n sc d).map fun ed => .chn o o' ea eb ed
    | .Tuple es _ _ => (cEs kt hot n sc es).map .tup
    | .List es _ => (cEs kt hot n sc es).map .lst
    | .Subscript a (.Slice none none (some (.UnaryOp .USub (.Constant (.int 1) _ _) _)) _) _ => (cE kt hot n sc a).map .rev
    | .Subscript a (.Slice lo hi none _) _ => (cE kt hot n sc a).bind fun ea => (cO kt hot n sc lo).bind fun el => (cO kt hot n sc hi).map fun eh => .sl ea el eh
    | .Subscript (.Dict keys vals _) b _ => if noSlice b && (decide (keys.length ≤ 15) && !keys.isEmpty) then (dkS keys).bind fun ks => if decide ks.Nodup && decide (vals.length = ks.length) then (optAll (fun v => cE kt hot n sc v) vals).bind fun evs => (cE kt hot n sc b).map fun eb => .ix (.lst evs) (.mth .index (.lst (ks.map fun z => .k (.str z))) [eb]) else none else none
    | .Subscript a b _ => if noSlice b then (cE kt hot n sc a).bind fun ea => (cE kt hot n sc b).map fun eb => .ix ea eb else none
    | .Call (.Name x _) es [] _ => if hot then none else cCall kt n sc x es
    | .Call (.Subscript (.List elts _) b _) (e :: es) [] _ => if hot then none else if noSlice b && decide (elts.length ≤ 1000) then (cE kt false n sc b).bind fun eb => (cEs kt false n sc (e :: es)).bind fun ees => (selS kt.tb sc ees.length elts).map fun fs => .sel fs eb ees else none
    | .Call (.Attribute o m pa) [e] [] pos => if hot then none else if plainBase o && (noStar e && (pa.endLine == pos.line)) then
        (if eqS m "index" then (cE kt hot n sc o).bind fun eo => (cE kt hot n sc e).map fun ee => .mth .index eo [ee]
         else if eqS m "split" then (cE kt hot n sc o).bind fun eo => (cE kt hot n sc e).map fun ee => .mth .split eo [ee] else none) else none
    | .ListComp elt [⟨tg, it, ifs, 0⟩] scope _ => if hot then none else if blkC kt.N sc scope (ownL kt.N scope) && noSet it then
        (cI kt n sc (isTup tg) it).bind fun i => (cG kt (some scope) (relS scope sc) n tg).bind fun t => (cTs kt n (relS scope sc) ifs).bind fun cs => (cE kt false n (relS scope sc) elt).bind fun ee =>
          let vs := (ownL kt.N scope).map (·.2)
          if (tgN t).all fun j => vs.contains j then some (.lc ee t i.1 i.2 cs vs) else none
        else none
    | .ListComp elt [⟨tg, it, ifs, 0⟩, ⟨tg1, it1, ifs1, 0⟩] scope _ => if hot then none else if blkC kt.N sc scope (ownL kt.N scope) && (noSet it && noSet it1) then
        (cI kt n sc (isTup tg) it).bind fun i => (cG kt (some scope) (relS scope sc) n tg).bind fun t => (cTs kt n (relS scope sc) ifs).bind fun cs => (cI kt n (relS scope sc) (isTup tg1) it1).bind fun i1 => (cG kt (some scope) (relS scope sc) n tg1).bind fun t1 => (cTs kt n (relS scope sc) ifs1).bind fun cs1 => (cE kt false n (relS scope sc) elt).bind fun ee =>
          let vs := (ownL kt.N scope).map (·.2)
          if ((tgN t).all fun j => vs.contains j) && ((tgN t1).all fun j => vs.contains j) then some (.lc2 ee t i.1 i.2 cs t1 i1.1 i1.2 cs1 vs (tgN t1)) else none
        else none
    | _ => none
def cEs (kt : Kt) (hot : Bool) : Nat → Scope → List Expr → Option (List E)
  | 0, _, _ => none
  | n + 1, sc, es => match es with
    | [] => some []
    | e :: r => if noStar e then (cE kt hot n sc e).bind fun a => (cEs kt hot n sc r).map fun as => a :: as else none
def cO (kt : Kt) (hot : Bool) : Nat → Scope → Option Expr → Option (List E)
  | 0, _, _ => none
  | n + 1, sc, o => match o with
    | none => some []
    | some e => (cE kt hot n sc e).map fun a => [a]
/-- a call of a name -/
def cCall (kt : Kt) : Nat → Scope → Str → List Expr → Option E
  | 0, _, _, _ => none
  | n + 1, sc, x, es => if glB sc x && nameB x then
      (if hasS kt.tb.free x then
        (if eqS x "isinstance" then (match es with
          | [a, .Name y _] => (tyOf y).bind fun t => if hasS kt.tb.free y && (glB sc y && noStar a) then (cE kt false n sc a).map fun ea => .isi t ea else none
          | _ => none)
        else match es with
          | [.Call (.Name r _) [a] [] _] => if eqS r "range" then
              (if hasS kt.tb.free r && (glB sc r && noStar a) then (if eqS x "tuple" then (cE kt false n sc a).map fun ea => .rng true [ea] else if eqS x "list" then (cE kt false n sc a).map fun ea => .rng false [ea] else none) else none)
              else (bfOf x).bind fun f => (cEs kt false n sc es).map fun ees => .bc f ees
          | [.Call (.Name r _) [a, b] [] _] => if eqS r "range" then
              (if hasS kt.tb.free r && (glB sc r && (noStar a && noStar b)) then (if eqS x "tuple" then (cE kt false n sc a).bind fun ea => (cE kt false n sc b).map fun eb => .rng true [ea, eb] else if eqS x "list" then (cE kt false n sc a).bind fun ea => (cE kt false n sc b).map fun eb => .rng false [ea, eb] else none) else none)
              else (bfOf x).bind fun f => (cEs kt false n sc es).map fun ees => .bc f ees
          | e :: r => (bfOf x).bind fun f => (cEs kt false n sc (e :: r)).map fun ees => .bc f ees
          | [] => none)
      else match es with
        | [] => (fnS kt.tb.fn x 0).map fun i => .call i []
        | e :: r => (cEs kt false n sc (e :: r)).bind fun ees => (fnS kt.tb.fn x ees.length).map fun i => .call i ees)
    else none
def cTs (kt : Kt) : Nat → Scope → List Expr → Option (List E)
  | 0, _, _ => none
  | n + 1, sc, es => match es with
    | [] => some []
    | [e] => if tOk n e then (cE kt false n sc e).map fun a => [a] else none
    | _ => none
/-- what is walked -/
def cI (kt : Kt) : Nat → Scope → Bool → Expr → Option (IK × List E)
  | 0, _, _, _ => none
  | n + 1, sc, tt, e => match e with
    | .Call (.Name x _) [a] [] _ =>
      if eqS x "range" then (if hasS kt.tb.free x && glB sc x then (cEs kt false n sc [a]).map fun ees => (.rg1, ees) else none)
      else if eqS x "enumerate" then (if tt && (hasS kt.tb.free x && glB sc x) then (cEs kt false n sc [a]).map fun ees => (.en, ees) else none)
      else (cE kt false n sc e).map fun ee => (.seq, [ee])
    | .Call (.Name x _) [a, b] [] _ =>
      if eqS x "range" then (if hasS kt.tb.free x && glB sc x then (cEs kt false n sc [a, b]).map fun ees => (.rg2, ees) else none)
      else if eqS x "zip" then (if tt && (hasS kt.tb.free x && glB sc x) then (cEs kt false n sc [a, b]).map fun ees => (.zp, ees) else none)
      else (cE kt false n sc e).map fun ee => (.seq, [ee])
    | .Call (.Name x _) [a, b, d] [] _ =>
      if eqS x "range" then (if hasS kt.tb.free x && glB sc x then (cEs kt false n sc [a, b, d]).map fun ees => (.rg3, ees) else none)
      else (cE kt false n sc e).map fun ee => (.seq, [ee])
    | _ => (cE kt false n sc e).map fun ee => (.seq, [ee])
end
example (a : Expr) (pos : Pos) (env : PySem.Env) : eval (.BoolOp .And [a] pos) env = eval a env := rfl
end Ev
set_option Elab.async false
set_option linter.all false
set_option maxRecDepth 100000
set_option maxHeartbeats 4000000
namespace Ev
open PySem PySem.Spec PyProof.Rows L2
theorem ob {α β : Type} {o : Option α} {f : α → Option β} {b : β} (h : o.bind f = some b) : ∃ a, o = some a ∧ f a = some b := Option.bind_eq_some_iff.mp h
theorem om {α β : Type} {o : Option α} {f : α → β} {b : β} (h : o.map f = some b) : ∃ a, o = some a ∧ f a = b := Option.map_eq_some_iff.mp h
theorem oi {α : Type} {p : Prop} [Decidable p] {a : Option α} {b : α} (h : (if p then a else none) = some b) : p ∧ a = some b := by
  split at h
  · exact ⟨by assumption, h⟩
  · cases h
theorem oj {α : Type} {p : Prop} [Decidable p] {a : Option α} {b : α} (h : (if p then none else a) = some b) : ¬ p ∧ a = some b := by
  split at h
  · cases h
  · exact ⟨by assumption, h⟩
theorem ok_ {α : Type} {p : Bool} {a : Option α} {b : α} (h : (if p = true then none else a) = some b) : p = false ∧ a = some b := by
  cases p with
  | true => cases h
  | false => exact ⟨rfl, h⟩
section
variable {T : Ct} {c : Cc} {kt : Kt} {k : Nat}
theorem cG_ok : ∀ n : Nat, (∀ {X : Cx} {ow : Option Scope} {sc : Scope} {W : WX} (gd : Gd X T c kt.tb kt.N ow sc W k) {e : Expr} {t : Tg}, cG kt ow sc n e = some t → PG X e (semG T t)) ∧ (∀ {X : Cx} {ow : Option Scope} {sc : Scope} {W : WX} (gd : Gd X T c kt.tb kt.N ow sc W k) {e : List Expr} {t : List Tg}, cGs kt ow sc n e = some t → PGs X e (semGs T t) ∧ e.length = t.length)
  | 0 => by
    refine ⟨fun {X ow sc W} gd {e t} h => ?_, fun {X ow sc W} gd {e t} h => ?_⟩
    · rw [cG.eq_def] at h; cases h
    · rw [cGs.eq_def] at h; cases h
  | n + 1 => by
    obtain ⟨h1, h2⟩ := cG_ok n
    refine ⟨fun {X ow sc W} gd {e t} h => ?_, fun {X ow sc W} gd {e t} h => ?_⟩
    · rw [cG.eq_def] at h
      dsimp only at h
      split at h
      · obtain ⟨q, h⟩ := oi h
        obtain ⟨q1, q2⟩ := ba2 q
        obtain ⟨i, hz, rfl⟩ := om h
        exact g_nm gd (ixS_ok hz) q1 q2
      · obtain ⟨q, h⟩ := oi h
        obtain ⟨ts, hz, rfl⟩ := om h
        obtain ⟨p, l⟩ := h2 gd hz
        exact g_tu gd q l p
      · cases h
    · rw [cGs.eq_def] at h
      dsimp only at h
      split at h
      · cases h; exact ⟨gs_nil, rfl⟩
      · obtain ⟨q, h⟩ := oi h
        obtain ⟨a, ha, h⟩ := ob h
        obtain ⟨as, hs, rfl⟩ := om h
        obtain ⟨p, l⟩ := h2 gd hs
        exact ⟨gs_cons q (h1 gd ha) p, by rw [List.length_cons, List.length_cons, l]⟩
theorem s_cK {X : Cx} {W : WX} {cst : Const} {j : Nat} {pos : Pos} {d : D} (h : cK cst = some d) : PE X (.Constant cst j pos) (semE T c W (.k d)) := by
  cases cst with
  | none => cases h; exact s_k pe_non fun _ => .non
  | bool b => cases h; exact s_k pe_bl fun _ => .bl b
  | int b => cases h; exact s_k pe_int fun _ => .int b
  | str x => obtain ⟨q, h⟩ := oi h; cases h; exact s_k pe_str fun _ => .str x q
  | _ => cases h
theorem s_one {X : Cx} {W : WX} {a : Expr} {op : BoolOp} {ee : E} {pos : Pos} (h : PE X a (semE T c W ee)) : PE X (.BoolOp op [a] pos) (semE T c W ee) := by
  cases op <;> exact ⟨h.run⟩
structure Snd (T : Ct) (c : Cc) (kt : Kt) (k n : Nat) : Prop where
  e : ∀ {X : Cx} {hot : Bool} {ow : Option Scope} {sc : Scope} {W : WX} (gq : Gq X T c kt.tb kt.N ow sc k) (gd : hot = false → Gd X T c kt.tb kt.N ow sc W k) {e : Expr} {ee : E}, cE kt hot n sc e = some ee → PE X e (semE T c W ee)
  t : ∀ {X : Cx} {hot : Bool} {ow : Option Scope} {sc : Scope} {W : WX} (gq : Gq X T c kt.tb kt.N ow sc k) (gd : hot = false → Gd X T c kt.tb kt.N ow sc W k) {e : Expr} {ee : E}, tOk n e = true → cE kt hot n sc e = some ee → PT X e (semT T c W ee)
  w : ∀ {X : Cx} {hot : Bool} {ow : Option Scope} {sc : Scope} {W : WX} (gq : Gq X T c kt.tb kt.N ow sc k) (gd : hot = false → Gd X T c kt.tb kt.N ow sc W k) {op : BoolOp} {vs : List Expr} {pos : Pos} {ee : E}, tOk n (.BoolOp op vs pos) = true → cE kt hot n sc (.BoolOp op vs pos) = some ee → PW X (.BoolOp op vs pos) (semT T c W ee)
  es : ∀ {X : Cx} {hot : Bool} {ow : Option Scope} {sc : Scope} {W : WX} (gq : Gq X T c kt.tb kt.N ow sc k) (gd : hot = false → Gd X T c kt.tb kt.N ow sc W k) {e : List Expr} {ee : List E}, cEs kt hot n sc e = some ee → PA X e (semA T c W ee) ∧ e.all noStar = true ∧ e.length = ee.length
  o : ∀ {X : Cx} {hot : Bool} {ow : Option Scope} {sc : Scope} {W : WX} (gq : Gq X T c kt.tb kt.N ow sc k) (gd : hot = false → Gd X T c kt.tb kt.N ow sc W k) {e : Option Expr} {ee : List E}, cO kt hot n sc e = some ee → PO X e (semO T c W ee)
  call : ∀ {X : Cx} {ow : Option Scope} {sc : Scope} {W : WX} (gd : Gd X T c kt.tb kt.N ow sc W k) {x : Str} {es : List Expr} {p pos : Pos} {ee : E}, cCall kt n sc x es = some ee → PE X (.Call (.Name x p) es [] pos) (semE T c W ee)
  ts : ∀ {X : Cx} {ow : Option Scope} {sc : Scope} {W : WX} (gd : Gd X T c kt.tb kt.N ow sc W k) {e : List Expr} {ee : List E}, cTs kt n sc e = some ee → PTs X e (semTs T c W ee)
  i : ∀ {X : Cx} {ow : Option Scope} {sc : Scope} {W : WX} (gd : Gd X T c kt.tb kt.N ow sc W k) {tg e : Expr} {i : IK × List E}, cI kt n sc (isTup tg) e = some i → PI X tg e (semI T c W i.1 i.2)
theorem Snd.zero : Snd T c kt k 0 where
  e := fun {_ _ _ _ _} _ _ {_ _} h => by rw [cE.eq_def] at h; cases h
  t := fun {_ _ _ _ _} _ _ {_ _} h => by rw [tOk.eq_def] at h; cases h
  w := fun {_ _ _ _ _} _ _ {_ _ _ _} h => by rw [tOk.eq_def] at h; cases h
  es := fun {_ _ _ _ _} _ _ {_ _} h => by rw [cEs.eq_def] at h; cases h
  o := fun {_ _ _ _ _} _ _ {_ _} h => by rw [cO.eq_def] at h; cases h
  call := fun {_ _ _ _} _ {_ _ _ _ _} h => by rw [cCall.eq_def] at h; cases h
  ts := fun {_ _ _ _} _ {_ _} h => by rw [cTs.eq_def] at h; cases h
  i := fun {_ _ _ _} _ {_ _ _} h => by rw [cI.eq_def] at h; cases h
theorem ownL_all {N : List Str} {scope : Scope} : True := trivial
theorem mem_all {l m : List Nat} (h : (l.all fun j => m.contains j) = true) : ∀ i ∈ l, i ∈ m := fun i hi => by
  have := List.all_eq_true.mp h i hi
  simpa using this
theorem Snd.succ_e {n : Nat} (S : Snd T c kt k n) {X : Cx} {hot : Bool} {ow : Option Scope} {sc : Scope} {W : WX} (gq : Gq X T c kt.tb kt.N ow sc k) (gd : hot = false → Gd X T c kt.tb kt.N ow sc W k) {e : Expr} {ee : E} (h : cE kt hot (n + 1) sc e = some ee) : PE X e (semE T c W ee) := by
  rw [cE.eq_def] at h
  dsimp only at h
  split at h
  · obtain ⟨d, hz, rfl⟩ := om h
    exact s_cK hz
  · obtain ⟨hn, h⟩ := oi h
    split at h
    · rename_i hv
      obtain ⟨i, hz, rfl⟩ := om h
      exact s_v gq (ixS_ok hz) hv hn
    · obtain ⟨hg, h⟩ := oi h
      obtain ⟨i, hz, rfl⟩ := om h
      exact s_g gq (ixS_ok hz) hg hn
  · rename_i op b pos
    obtain ⟨o, h1, h⟩ := ob h
    obtain ⟨ea, h2, h⟩ := ob h
    obtain ⟨eb, h3, rfl⟩ := om h
    have pa := S.e gq gd h2
    have pb := S.e gq gd h3
    cases op <;> cases h1
    · exact s_add gq.hK pa pb
    · exact s_sub pa pb
    · exact s_mul gq.hK pa pb
    · exact s_mod pa pb
    · exact s_fdiv pa pb
  · obtain ⟨ea, hz, rfl⟩ := om h
    exact s_neg (S.e gq gd hz)
  · obtain ⟨ea, hz, rfl⟩ := om h
    exact s_not gq.hK (S.e gq gd hz)
  · exact s_one (S.e gq gd h)
  · obtain ⟨ea, h1, h⟩ := ob h
    obtain ⟨eb, h2, rfl⟩ := om h
    exact s_and gq.hK (S.e gq gd h1) (S.e gq gd h2)
  · exact s_one (S.e gq gd h)
  · obtain ⟨ea, h1, h⟩ := ob h
    obtain ⟨eb, h2, rfl⟩ := om h
    exact s_or gq.hK (S.e gq gd h1) (S.e gq gd h2)
  · obtain ⟨ht, h⟩ := oi h
    obtain ⟨et, h1, h⟩ := ob h
    obtain ⟨ea, h2, h⟩ := ob h
    obtain ⟨eb, h3, rfl⟩ := om h
    exact s_ite (S.t gq gd ht h1) (S.e gq gd h2) (S.e gq gd h3)
  · obtain ⟨hb, h⟩ := ok_ h
    obtain ⟨o, h1, h⟩ := ob h
    obtain ⟨ea, h2, h⟩ := ob h
    obtain ⟨eb, h3, rfl⟩ := om h
    rw [cmOf_ok h1] at hb ⊢
    exact s_cmp gq.hK gq.u hb (S.e gq gd h2) (S.e gq gd h3)
  · obtain ⟨hb, h⟩ := ok_ h
    obtain ⟨o, h1, h⟩ := ob h
    obtain ⟨o', h1', h⟩ := ob h
    obtain ⟨ea, h2, h⟩ := ob h
    obtain ⟨eb, h3, h⟩ := ob h
    obtain ⟨ed, h4, rfl⟩ := om h
    rw [cmOf_ok h1, cmOf_ok h1'] at hb ⊢
    exact s_chn gq.hK gq.u hb (S.e gq gd h2) (S.e gq gd h3) (S.e gq gd h4)
  · obtain ⟨ea, hz, rfl⟩ := om h
    exact s_tup (S.es gq gd hz).1
  · obtain ⟨ea, hz, rfl⟩ := om h
    exact s_lst (S.es gq gd hz).1
  · obtain ⟨ea, hz, rfl⟩ := om h
    exact s_rev gq.hK (S.e gq gd hz)
  · obtain ⟨ea, h1, h⟩ := ob h
    obtain ⟨el, h2, h⟩ := ob h
    obtain ⟨eh, h3, rfl⟩ := om h
    exact s_sl gq.hK (S.e gq gd h1) (S.o gq gd h2) (S.o gq gd h3)
  · obtain ⟨hs, h⟩ := oi h
    obtain ⟨q1, q2⟩ := ba2 hs
    obtain ⟨q3, q4⟩ := ba2 q2
    obtain ⟨ks, h1, h⟩ := ob h
    obtain ⟨hn, h⟩ := oi h
    obtain ⟨n1, n2⟩ := ba2 hn
    obtain ⟨evs, h2, h⟩ := ob h
    obtain ⟨eb, h3, rfl⟩ := om h
    obtain ⟨l1, l2⟩ := optAll_ok h2
    have n2 := of_decide_eq_true n2
    exact s_dix gq h1 n1 q3 (by simpa using q4) n2 (by rw [l1, n2]) (fun i v e a b => S.e gq gd (l2 i v e a b)) q1 (S.e gq gd h3)
  · obtain ⟨hs, h⟩ := oi h
    obtain ⟨ea, h1, h⟩ := ob h
    obtain ⟨eb, h2, rfl⟩ := om h
    exact s_ix gq.hK hs (S.e gq gd h1) (S.e gq gd h2)
  · obtain ⟨hh, h⟩ := ok_ h
    exact S.call (gd hh) h
  · obtain ⟨hh, h⟩ := ok_ h
    obtain ⟨hb, h⟩ := oi h
    obtain ⟨b1, b2⟩ := ba2 hb
    obtain ⟨eb, h1, h⟩ := ob h
    obtain ⟨ees, h2, h⟩ := ob h
    obtain ⟨fs, h3, rfl⟩ := om h
    obtain ⟨pa, l, m⟩ := S.es (hot := false) gq (fun _ => gd hh) h2
    rw [List.all_cons] at l
    obtain ⟨l1, l2⟩ := ba2 l
    exact s_sel (gd hh) h3 b2 b1 (S.e (hot := false) gq (fun _ => gd hh) h1) l1 l2 pa
  · obtain ⟨hh, h⟩ := ok_ h
    obtain ⟨hb, h⟩ := oi h
    obtain ⟨b1, b2, b3⟩ := ba3 hb
    split at h
    · rename_i hm
      rw [eqS_ok hm]
      obtain ⟨eo, h1, h⟩ := ob h
      obtain ⟨ea, h2, rfl⟩ := om h
      exact s_index (gd hh) b1 b2 b3 (S.e gq gd h1) (a_cons b2 (S.e gq gd h2) a_nil)
    · obtain ⟨hm, h⟩ := oi h
      rw [eqS_ok hm]
      obtain ⟨eo, h1, h⟩ := ob h
      obtain ⟨ea, h2, rfl⟩ := om h
      exact s_split (gd hh) b1 b2 b3 (S.e gq gd h1) (S.e gq gd h2)
  · obtain ⟨hh, h⟩ := ok_ h
    obtain ⟨hb, h⟩ := oi h
    obtain ⟨b1, b2⟩ := ba2 hb
    obtain ⟨i, h1, h⟩ := ob h
    obtain ⟨t, h2, h⟩ := ob h
    obtain ⟨cs, h3, h⟩ := ob h
    obtain ⟨ee, h4, h⟩ := ob h
    obtain ⟨hv, h⟩ := oi h
    cases h
    have g := gd hh
    exact PE.mono (pe_lc g.calm g.nd (S.i g h1) (by rw [g.hN, g.hsc]; exact blkOk_by b1) (fun s H C cl fp => (cG_ok n).1 (g.blk s H C cl fp) h2) (fun s H C cl fp => S.ts (g.blk s H C cl fp) h3) (fun s H C cl fp => S.e (hot := false) (g.blk s H C cl fp).toGq (fun _ => g.blk s H C cl fp) h4) (noSet_ok b2 X.env)) fun σ H Q q => s_lc_core g (mem_all hv) q
  · obtain ⟨hh, h⟩ := ok_ h
    obtain ⟨hb, h⟩ := oi h
    obtain ⟨b1, b2, b3⟩ := ba3 hb
    obtain ⟨i, h1, h⟩ := ob h
    obtain ⟨t, h2, h⟩ := ob h
    obtain ⟨cs, h3, h⟩ := ob h
    obtain ⟨i1, h4, h⟩ := ob h
    obtain ⟨t1, h5, h⟩ := ob h
    obtain ⟨cs1, h6, h⟩ := ob h
    obtain ⟨ee, h7, h⟩ := ob h
    obtain ⟨hv, h⟩ := oi h
    obtain ⟨v1, v2⟩ := ba2 hv
    cases h
    have g := gd hh
    exact PE.mono (pe_lc2 g.calm g.nd (S.i g h1) (by rw [g.hN, g.hsc]; exact blkOk_by b1) (mem_all v2) (fun s H C cl fp => (cG_ok n).1 (g.blk s H C cl fp) h2) (fun s H C cl fp => S.ts (g.blk s H C cl fp) h3) (fun s H C cl fp => S.i (g.blk s H C cl fp) h4) (fun s H C cl fp => (cG_ok n).1 (g.blk s H C cl fp) h5) (fun s H C cl fp => S.ts (g.blk s H C cl fp) h6)
      (fun s H C cl fp => S.e (hot := false) (g.blk s H C cl fp).toGq (fun _ => g.blk s H C cl fp) h7) (noSet_ok b2 X.env) (fun env x => noSet_ok b3 env x)) fun σ H Q q => s_lc2_core g (mem_all v1) (fun _ h => h) q
  · cases h
end
end Ev
set_option Elab.async false
set_option linter.all false
set_option maxRecDepth 100000
set_option maxHeartbeats 4000000
namespace Ev
open PySem PySem.Spec PyProof.Rows L2
section
variable {T : Ct} {c : Cc} {kt : Kt} {k : Nat}
theorem Snd.succ_w {n : Nat} (S : Snd T c kt k n) {X : Cx} {hot : Bool} {ow : Option Scope} {sc : Scope} {W : WX} (gq : Gq X T c kt.tb kt.N ow sc k) (gd : hot = false → Gd X T c kt.tb kt.N ow sc W k) {op : BoolOp} {vs : List Expr} {pos : Pos} {ee : E}
    (ht : tOk (n + 1) (.BoolOp op vs pos) = true) (h : cE kt hot (n + 1) sc (.BoolOp op vs pos) = some ee) : PW X (.BoolOp op vs pos) (semT T c W ee) := by
  rw [cE.eq_def] at h
  rw [tOk.eq_def] at ht
  cases op with
  | And => cases vs with
    | nil => cases h
    | cons a r => cases r with
      | nil => exact pw_and1 (S.t gq gd ht h)
      | cons b r =>
        obtain ⟨t1, t2⟩ := ba2 ht
        obtain ⟨ea, h1, h⟩ := ob h
        obtain ⟨eb, h2, rfl⟩ := om h
        exact w_and (S.t gq gd t1 h1) (S.w gq gd t2 h2)
  | Or => cases vs with
    | nil => cases h
    | cons a r => cases r with
      | nil => exact pw_or1 (S.t gq gd ht h)
      | cons b r =>
        obtain ⟨t1, t2⟩ := ba2 ht
        obtain ⟨ea, h1, h⟩ := ob h
        obtain ⟨eb, h2, rfl⟩ := om h
        exact w_or (S.t gq gd t1 h1) (S.w gq gd t2 h2)
theorem Snd.succ_t {n : Nat} (S : Snd T c kt k n) {X : Cx} {hot : Bool} {ow : Option Scope} {sc : Scope} {W : WX} (gq : Gq X T c kt.tb kt.N ow sc k) (gd : hot = false → Gd X T c kt.tb kt.N ow sc W k) {e : Expr} {ee : E}
    (ht : tOk (n + 1) e = true) (h : cE kt hot (n + 1) sc e = some ee) : PT X e (semT T c W ee) := by
  have pe := S.succ_e gq gd h
  cases e with
  | BoolOp op vs pos => exact (S.succ_w gq gd ht h).pt
  | IfExp t a b pos => rw [tOk.eq_def] at ht; cases ht
  | UnaryOp op a pos =>
    cases op with
    | Not =>
      rw [cE.eq_def] at h
      rw [tOk.eq_def] at ht
      obtain ⟨ea, h1, rfl⟩ := om h
      exact t_not (S.t gq gd ht h1)
    | _ => exact t_tru gq.hK rfl pe
  | Compare a ops bs pos =>
    rw [cE.eq_def] at h
    cases ops with
    | nil => cases h
    | cons op ops => cases ops with
      | nil => cases bs with
        | nil => cases h
        | cons b bs => cases bs with
          | cons _ _ => cases h
          | nil =>
            obtain ⟨hb, h⟩ := ok_ h
            obtain ⟨o, h1, h⟩ := ob h
            obtain ⟨ea, h2, h⟩ := ob h
            obtain ⟨eb, h3, rfl⟩ := om h
            have hb := hb
            rw [cmOf_ok h1] at hb ⊢
            exact t_cmp gq.hK gq.u hb (S.e gq gd h2) (S.e gq gd h3)
      | cons op' ops => cases ops with
        | cons _ _ => cases h
        | nil => cases bs with
          | nil => cases h
          | cons b bs => cases bs with
            | nil => cases h
            | cons d bs => cases bs with
              | cons _ _ => cases h
              | nil =>
                obtain ⟨hb, h⟩ := ok_ h
                obtain ⟨o, h1, h⟩ := ob h
                obtain ⟨o', h1', h⟩ := ob h
                obtain ⟨ea, h2, h⟩ := ob h
                obtain ⟨eb, h3, h⟩ := ob h
                obtain ⟨ed, h4, rfl⟩ := om h
                rw [cmOf_ok h1, cmOf_ok h1'] at hb ⊢
                exact t_chn gq.hK gq.u hb (S.e gq gd h2) (S.e gq gd h3) (S.e gq gd h4)
  | _ => exact t_tru gq.hK rfl pe
theorem Snd.succ_es {n : Nat} (S : Snd T c kt k n) {X : Cx} {hot : Bool} {ow : Option Scope} {sc : Scope} {W : WX} (gq : Gq X T c kt.tb kt.N ow sc k) (gd : hot = false → Gd X T c kt.tb kt.N ow sc W k) {e : List Expr} {ee : List E} (h : cEs kt hot (n + 1) sc e = some ee) :
    PA X e (semA T c W ee) ∧ e.all noStar = true ∧ e.length = ee.length := by
  rw [cEs.eq_def] at h
  cases e with
  | nil => cases h; exact ⟨a_nil, rfl, rfl⟩
  | cons a r =>
    obtain ⟨q, h⟩ := oi h
    obtain ⟨ea, h1, h⟩ := ob h
    obtain ⟨er, h2, rfl⟩ := om h
    obtain ⟨p, l, m⟩ := S.es gq gd h2
    exact ⟨a_cons q (S.e gq gd h1) p, by rw [List.all_cons, q, l]; rfl, by rw [List.length_cons, List.length_cons, m]⟩
theorem Snd.succ_o {n : Nat} (S : Snd T c kt k n) {X : Cx} {hot : Bool} {ow : Option Scope} {sc : Scope} {W : WX} (gq : Gq X T c kt.tb kt.N ow sc k) (gd : hot = false → Gd X T c kt.tb kt.N ow sc W k) {e : Option Expr} {ee : List E} (h : cO kt hot (n + 1) sc e = some ee) : PO X e (semO T c W ee) := by
  rw [cO.eq_def] at h
  cases e with
  | none => cases h; exact o_none
  | some a =>
    obtain ⟨ea, h1, rfl⟩ := om h
    exact o_some (S.e gq gd h1)
theorem Snd.succ_ts {n : Nat} (S : Snd T c kt k n) {X : Cx} {ow : Option Scope} {sc : Scope} {W : WX} (gd : Gd X T c kt.tb kt.N ow sc W k) {e : List Expr} {ee : List E} (h : cTs kt (n + 1) sc e = some ee) : PTs X e (semTs T c W ee) := by
  rw [cTs.eq_def] at h
  cases e with
  | nil => cases h; exact cts_nil
  | cons a r => cases r with
    | cons _ _ => cases h
    | nil =>
      obtain ⟨ht, h⟩ := oi h
      obtain ⟨ea, h1, rfl⟩ := om h
      exact cts_one (S.t gd.toGq (fun _ => gd) ht h1)
theorem Snd.succ_i {n : Nat} (S : Snd T c kt k n) {X : Cx} {ow : Option Scope} {sc : Scope} {W : WX} (gd : Gd X T c kt.tb kt.N ow sc W k) {tg e : Expr} {i : IK × List E} (h : cI kt (n + 1) sc (isTup tg) e = some i) : PI X tg e (semI T c W i.1 i.2) := by
  have isq : ∀ {a : Expr}, (cE kt false n sc a).map (fun ee => (IK.seq, [ee])) = some i → PI X tg a (semI T c W i.1 i.2) := fun {a} h => by
    obtain ⟨ea, h1, rfl⟩ := om h
    exact i_seq gd (S.e gd.toGq (fun _ => gd) h1)
  rw [cI.eq_def] at h
  dsimp only at h
  split at h
  · split at h
    · rename_i hx
      obtain ⟨q, h⟩ := oi h
      obtain ⟨q1, q2⟩ := ba2 q
      rw [eqS_ok hx] at q1 q2 ⊢
      obtain ⟨es, h1, rfl⟩ := om h
      obtain ⟨p, l, m⟩ := S.es gd.toGq (fun _ => gd) h1
      simp only [List.all_cons, List.all_nil, Bool.and_true] at l
      match es, m, p with
      | [ea], _, p => exact i_rg1 gd (hasS_ok q1) q2 l p
    · split at h
      · rename_i hx
        obtain ⟨q, h⟩ := oi h
        obtain ⟨q0, q1, q2⟩ := ba3 q
        rw [eqS_ok hx] at q1 q2 ⊢
        obtain ⟨es, h1, rfl⟩ := om h
        obtain ⟨p, l, m⟩ := S.es gd.toGq (fun _ => gd) h1
        simp only [List.all_cons, List.all_nil, Bool.and_true] at l
        cases tg with
        | Tuple _ _ _ => match es, m, p with
          | [ea], _, p => exact i_en gd (hasS_ok q1) q2 l p
        | _ => cases q0
      · exact isq h
  · split at h
    · rename_i hx
      obtain ⟨q, h⟩ := oi h
      obtain ⟨q1, q2⟩ := ba2 q
      rw [eqS_ok hx] at q1 q2 ⊢
      obtain ⟨es, h1, rfl⟩ := om h
      obtain ⟨p, l, m⟩ := S.es gd.toGq (fun _ => gd) h1
      simp only [List.all_cons, List.all_nil, Bool.and_true] at l
      obtain ⟨l1, l2⟩ := ba2 l
      match es, m, p with
      | [ea, eb], _, p => exact i_rg2 gd (hasS_ok q1) q2 l1 l2 p
    · split at h
      · rename_i hx
        obtain ⟨q, h⟩ := oi h
        obtain ⟨q0, q1, q2⟩ := ba3 q
        rw [eqS_ok hx] at q1 q2 ⊢
        obtain ⟨es, h1, rfl⟩ := om h
        obtain ⟨p, l, m⟩ := S.es gd.toGq (fun _ => gd) h1
        simp only [List.all_cons, List.all_nil, Bool.and_true] at l
        obtain ⟨l1, l2⟩ := ba2 l
        cases tg with
        | Tuple _ _ _ => match es, m, p with
          | [ea, eb], _, p => exact i_zp gd (hasS_ok q1) q2 l1 l2 p
        | _ => cases q0
      · exact isq h
  · split at h
    · rename_i hx
      obtain ⟨q, h⟩ := oi h
      obtain ⟨q1, q2⟩ := ba2 q
      rw [eqS_ok hx] at q1 q2 ⊢
      obtain ⟨es, h1, rfl⟩ := om h
      obtain ⟨p, l, m⟩ := S.es gd.toGq (fun _ => gd) h1
      simp only [List.all_cons, List.all_nil, Bool.and_true] at l
      obtain ⟨l1, l2⟩ := ba2 l
      obtain ⟨l2, l3⟩ := ba2 l2
      match es, m, p with
      | [ea, eb, ed], _, p => exact i_rg3 gd (hasS_ok q1) q2 l1 l2 l3 p
    · exact isq h
  · exact isq h
theorem Snd.succ_call {n : Nat} (S : Snd T c kt k n) {X : Cx} {ow : Option Scope} {sc : Scope} {W : WX} (gd : Gd X T c kt.tb kt.N ow sc W k) {x : Str} {es : List Expr} {p pos : Pos} {ee : E} (h : cCall kt (n + 1) sc x es = some ee) : PE X (.Call (.Name x p) es [] pos) (semE T c W ee) := by
  have E_ := fun {e : Expr} {ee : E} (h : cE kt false n sc e = some ee) => S.e gd.toGq (fun _ => gd) h
  rw [cCall.eq_def] at h
  dsimp only at h
  replace h := oi h
  obtain ⟨q, h⟩ := h
  obtain ⟨hg, hn⟩ := ba2 q
  split at h
  · rename_i hf
    have bf : ∀ {e : Expr} {r : List Expr}, ((bfOf x).bind fun f => (cEs kt false n sc (e :: r)).map fun ees => .bc f ees) = some ee → PE X (.Call (.Name x p) (e :: r) [] pos) (semE T c W ee) := fun {e r} h => by
      obtain ⟨f, h1, h⟩ := ob h
      obtain ⟨ees, h2, rfl⟩ := om h
      obtain ⟨pa, l, m⟩ := S.es gd.toGq (fun _ => gd) h2
      rw [List.all_cons] at l
      obtain ⟨l1, l2⟩ := ba2 l
      exact s_bc gd (bfOf_ok h1) (by rw [← bfOf_ok h1]; exact hasS_ok hf) hg l1 l2 pa
    split at h
    · rename_i hx
      have hx := eqS_ok hx
      subst hx
      cases es with
      | nil => cases h
      | cons a r => cases r with
        | nil => cases h
        | cons b r => cases r with
          | cons _ _ => cases b <;> cases h
          | nil => cases b with
            | Name y p2 =>
              obtain ⟨t, h1, h⟩ := ob h
              obtain ⟨q, h⟩ := oi h
              obtain ⟨q1, q2, q3⟩ := ba3 q
              obtain ⟨ea, h2, rfl⟩ := om h
              exact s_isi gd (hasS_ok hf) (by rw [← tyOf_ok h1]; exact hasS_ok q1) (tyOf_ok h1) hg q2 q3 (E_ h2)
            | _ => cases h
    · split at h
      · split at h
        · rename_i hr
          obtain ⟨q, h⟩ := oi h
          obtain ⟨q1, q2, q3⟩ := ba3 q
          rw [eqS_ok hr] at q1 q2 ⊢
          split at h
          · rename_i hx
            obtain ⟨ea, h2, rfl⟩ := om h
            exact s_rng1 gd (tu := true) (eqS_ok hx) (hasS_ok hf) (hasS_ok q1) hg q2 q3 (E_ h2)
          · obtain ⟨hx, h⟩ := oi h
            obtain ⟨ea, h2, rfl⟩ := om h
            exact s_rng1 gd (tu := false) (eqS_ok hx) (hasS_ok hf) (hasS_ok q1) hg q2 q3 (E_ h2)
        · exact bf h
      · split at h
        · rename_i hr
          obtain ⟨q, h⟩ := oi h
          obtain ⟨q1, q2, q3⟩ := ba3 q
          obtain ⟨q3, q4⟩ := ba2 q3
          rw [eqS_ok hr] at q1 q2 ⊢
          split at h
          · rename_i hx
            obtain ⟨ea, h2, h⟩ := ob h
            obtain ⟨eb, h3, rfl⟩ := om h
            exact s_rng2 gd (tu := true) (eqS_ok hx) (hasS_ok hf) (hasS_ok q1) hg q2 q3 q4 (E_ h2) (E_ h3)
          · obtain ⟨hx, h⟩ := oi h
            obtain ⟨ea, h2, h⟩ := ob h
            obtain ⟨eb, h3, rfl⟩ := om h
            exact s_rng2 gd (tu := false) (eqS_ok hx) (hasS_ok hf) (hasS_ok q1) hg q2 q3 q4 (E_ h2) (E_ h3)
        · exact bf h
      · exact bf h
      · cases h
  · split at h
    · obtain ⟨i, h1, rfl⟩ := om h
      exact s_call0 gd (fnS_ok h1) hg hn
    · obtain ⟨ees, h1, h⟩ := ob h
      obtain ⟨i, h2, rfl⟩ := om h
      obtain ⟨pa, l, m⟩ := S.es gd.toGq (fun _ => gd) h1
      rw [List.all_cons] at l
      obtain ⟨l1, l2⟩ := ba2 l
      exact s_call gd (fnS_ok h2) rfl hg hn l1 l2 pa
theorem snd : ∀ n : Nat, Snd T c kt k n
  | 0 => Snd.zero
  | n + 1 => {
    e := (snd n).succ_e
    t := (snd n).succ_t
    w := (snd n).succ_w
    es := (snd n).succ_es
    o := (snd n).succ_o
    call := (snd n).succ_call
    ts := (snd n).succ_ts
    i := (snd n).succ_i }
end
end Ev
set_option Elab.async false
set_option linter.all false
set_option maxRecDepth 100000
set_option maxHeartbeats 4000000
namespace Ev
open PySem PySem.Spec PyProof.Rows L2
/-! ### the small syntax of statements -/
/-- names that a value may be -/
def dirE : E → List Nat
  | .v i => [i]
  | .ite _ a b => dirE a ++ dirE b
  | .and_ a b => dirE a ++ dirE b
  | .or_ a b => dirE a ++ dirE b
  | _ => []
def dirs : List E → List Nat
  | [] => []
  | e :: r => dirE e ++ dirs r
def newE : E → Bool
  | .lst _ => true
  | .lc _ _ _ _ _ _ => true
  | .lc2 _ _ _ _ _ _ _ _ _ _ _ => true
  | .rev _ => true
  | .rng tu _ => !tu
  | .bc .sorted _ => true
  | .bc .list _ => true
  | _ => false
mutual
/-- names whose values are kept -/
def kpE : E → List Nat
  | .op _ a b => kpE a ++ kpE b
  | .neg a => kpE a
  | .cmp _ a b => kpE a ++ kpE b
  | .chn _ _ a b d => kpE a ++ (kpE b ++ kpE d)
  | .and_ a b => kpE a ++ kpE b
  | .or_ a b => kpE a ++ kpE b
  | .not_ a => kpE a
  | .ite t a b => kpE t ++ (kpE a ++ kpE b)
  | .tup es => dirs es ++ kpEs es
  | .lst es => dirs es ++ kpEs es
  | .ix a b => kpE a ++ kpE b
  | .sl a lo hi => kpE a ++ (kpEs lo ++ kpEs hi)
  | .rev a => kpE a
  | .bc _ es => kpEs es
  | .isi _ a => kpE a
  | .rng _ es => kpEs es
  | .call _ es => (if es.any newE then dirs es else []) ++ kpEs es
  | .sel _ i es => (if es.any newE then dirs es else []) ++ (kpE i ++ kpEs es)
  | .mth _ o es => kpE o ++ kpEs es
  | .lc elt _ k ies cs own => ((if isSeq k then [] else dirs ies) ++ (kpEs ies ++ ((dirE elt ++ (kpE elt ++ kpEs cs)).filter fun i => !own.contains i)))
  | .lc2 elt _ k ies cs _ _ ies1 cs1 own _ => ((if isSeq k then [] else dirs ies) ++ (kpEs ies ++ ((dirE elt ++ (kpE elt ++ (kpEs cs ++ (dirs ies1 ++ (kpEs ies1 ++ kpEs cs1))))).filter fun i => !own.contains i)))
  | _ => []
def kpEs : List E → List Nat
  | [] => []
  | e :: r => kpE e ++ kpEs r
end
def lkS : S → List Nat
  | .asg _ e => dirE e ++ kpE e
  | .par _ es => dirs es ++ kpEs es
  | .psub _ es => dirs es ++ kpEs es
  | .aug _ _ e => kpE e
  | .augs _ a _ e => kpE e ++ kpE a
  | .set _ e v => dirE v ++ (kpE v ++ kpE e)
  | .app _ e => dirE e ++ kpE e
  | .ext _ e => kpE e
  | .ex e => kpE e
  | .ret e => kpE e
  | .ifs c _ _ => kpE c
  | .for_ _ _ ies _ => dirs ies ++ kpEs ies
  | .whl c _ => kpE c
  | _ => []
def addLk (s : S) : S := match lkS s with
  | [] => s
  | l => .lk l.eraseDups s
theorem st_addLk {X : Cx} {T : Ct} {c : Cc} {W : WX} {st : Stmt} {a : S} (h : PS X st (semS T c W a)) : PS X st (semS T c W (addLk a)) := by
  unfold addLk
  split
  · exact h
  · exact st_lk h
/-- which names a pair's stores swap -/
def swB (sc : Scope) (ts vs : List Expr) : Option (Option (List Str)) :=
  if (!(ts.length == 2 || ts.length == 3) || vs.length != ts.length || sc.kind != .function) = true then some none
  else if (vs.any fun | .Starred .. => true | _ => false) = true then some none
  else
    let line := (ts.head?.map (·.pos.line)).getD 0
    let names := ts.filterMap fun
      | .Name id pos => if (sc.names.lookup id == some .local && pos.line == line) = true then some id else none
      | _ => none
    if (names.length != ts.length || names.eraseDups.length != names.length) = true then some none
    else if (vs.all (foldedForSure 8)) = true then some none
    else if (vs.all (constantsAlone 8)) = true then none
    else some (some names)
theorem swB_ok {sc : Scope} {ts vs : List Expr} {r : Option (List Str)} {j j2 : Nat} {p p2 : Pos} {env : PySem.Env} (hk : sc.kind = .function) (he : env.scope = sc) (h : swB sc ts vs = some r) : swappedStores [.Tuple ts j p] (.Tuple vs j2 p2) env = pure r := by
  subst he
  have hb : env.blockKind = .function := by unfold Env.blockKind; rw [hk]; rfl
  unfold swappedStores
  unfold swB at h
  rw [hk] at h
  simp only [hb, Env.kindOf]
  split at h
  · rename_i q; cases h; exact if_pos q
  · rename_i q
    refine (if_neg q).trans ?_
    split at h
    · rename_i q2; cases h; exact if_pos q2
    · rename_i q2
      refine (if_neg q2).trans ?_
      dsimp only at h ⊢
      split at h
      · rename_i q3; cases h; exact if_pos q3
      · rename_i q3
        refine (if_neg q3).trans ?_
        split at h
        · rename_i q4; cases h; exact if_pos q4
        · rename_i q4
          refine (if_neg q4).trans ?_
          split at h
          · cases h
          · rename_i q5; cases h; exact if_neg q5
end Ev
set_option Elab.async false
set_option linter.all false
set_option maxRecDepth 100000
set_option maxHeartbeats 4000000
namespace Ev
open PySem PySem.Spec PyProof.Rows L2
def funB (sc : Scope) : Bool := match sc.kind with
  | .function => true
  | _ => false
theorem funB_ok {sc : Scope} (h : funB sc = true) : sc.kind = .function := by
  unfold funB at h
  split at h
  · assumption
  · cases h
def lclB (sc : Scope) (x : Str) : Bool := match sc.names.lookup x with
  | some .local => true
  | _ => false
theorem lclB_ok {sc : Scope} {x : Str} (h : lclB sc x = true) : sc.names.lookup x = some .local := by
  unfold lclB at h
  split at h
  · assumption
  · cases h
/-- a comprehension's list goes straight to its name -/
def strB (sc : Scope) (y : Str) (py pos : Pos) (scope : Scope) : Bool := funB sc && (lclB sc y && ((py.line == pos.line) && !(scope.names.any fun (n, k) => n == y && (k == .local || k == .cell))))
theorem strB_ok {sc scope : Scope} {y : Str} {py pos : Pos} {env : PySem.Env} {elt : Expr} {gs : List Comprehension} {l : Nat} (he : env.scope = sc) (h : strB sc y py pos scope = true) : swapsWith (.ListComp elt gs scope pos) (some (.Name y py)) l env = pure true := by
  subst he
  obtain ⟨h1, h2, h3⟩ := ba3 h
  obtain ⟨h3, h4⟩ := ba2 h3
  exact sw_true (funB_ok h1) (lclB_ok h2) h3 (by simpa using h4)
theorem strB_no {sc scope : Scope} {y : Str} {py pos : Pos} {env : PySem.Env} {elt : Expr} {gs : List Comprehension} {l : Nat} (he : env.scope = sc) (hn : lclB sc y = false) : swapsWith (.ListComp elt gs scope pos) (some (.Name y py)) l env = pure false := by
  subst he
  have hk : (env.kindOf y == some .local) = false := by
    have e : env.kindOf y = env.scope.names.lookup y := rfl
    rw [e]
    unfold lclB at hn
    cases q : env.scope.names.lookup y with
    | none => rfl
    | some k => cases k <;> first | rfl | (rw [q] at hn; cases hn)
  unfold swapsWith
  simp only [hk, Bool.and_false, Bool.false_and]
def isLc : Expr → Bool
  | .ListComp _ _ _ _ => true
  | _ => false
/-- names as targets, four and more -/
def nmIx (N : List Str) (sc : Scope) : List Expr → Option (List Nat)
  | [] => some []
  | .Name x _ :: r => if locB sc x then (ixS N x).bind fun i => (nmIx N sc r).map fun l => i :: l else none
  | _ => none
def newX : Expr → Bool
  | .List _ _ => true
  | .ListComp _ _ _ _ => true
  | _ => false
def parIx (N : List Str) (sc : Scope) (ts : List Expr) (fr : Bool) : Option (List Nat) := if (decide (4 ≤ ts.length) || fr) && decide (ts.length ≤ 1000) then nmIx N sc ts else none
/-- names and places as targets -/
def cP (kt : Kt) : Nat → Scope → List Expr → Option (List (Nat × List E))
  | 0, _, _ => none
  | n + 1, sc, es => match es with
    | [] => some []
    | .Name x _ :: r => if locB sc x then (ixS kt.N x).bind fun i => (cP kt n sc r).map fun l => (i, []) :: l else none
    | .Subscript (.Name x _) a _ :: r => if visB sc x && (nameB x && noSlice a) then (ixS kt.N x).bind fun i => (cE kt false n sc a).bind fun ea => (cP kt n sc r).map fun l => (i, [ea]) :: l else none
    | _ => none
/-- a written text -/
def strC : Expr → Bool
  | .Constant (.str _) _ _ => true
  | _ => false
theorem strC_ok {e : Expr} (h : strC e = true) : ∃ m j p, e = .Constant (.str m) j p := by
  unfold strC at h
  split at h
  · exact ⟨_, _, _, rfl⟩
  · cases h
/-- what a suite says of the caught exception n -/
def cXe (kt : Kt) (sc : Scope) (n : Str) : Expr → Option HX
  | .Attribute (.Name y _) f _ => if eqS y n && eqS f "reason" then some .fld else none
  | .Tuple [.Constant q _ _, .Attribute (.Name y _) f _] _ _ => if eqS y n && eqS f "reason" then (match q with
    | .int v => some (.pr (.int v))
    | .str v => if hxOk (.pr (.str v)) then some (.pr (.str v)) else none
    | _ => none) else none
  | .BinOp (.BinOp (.Constant (.str l) _ _) .Add (.Attribute (.Name y _) f _) _) .Add (.Constant (.str r) _ _) _ => if (eqS y n && eqS f "reason") && hxOk (.cat l r) then some (.cat l r) else none
  | .IfExp (.Call (.Name g _) [.Name y _, .Name x _] [] _) (.Constant (.str l) _ _) (.Constant (.str r) _ _) _ =>
    if (eqS g "isinstance" && (hasS kt.tb.free g && glB sc g)) && ((eqS y n && kt.tb.kx) && ((glB sc x && nameB x) && hxOk (.ifk 0 l r))) then (xcS kt.tb.xc x).map fun j => .ifk j.1 l r else none
  | .IfExp (.Call (.Name g _) [.Name y _, .Name x _] [] _) (.Attribute (.Name z _) f _) (.Constant (.str r) _ _) _ =>
    if (eqS g "isinstance" && (hasS kt.tb.free g && glB sc g)) && ((eqS y n && kt.tb.kx) && ((glB sc x && nameB x) && ((eqS z n && eqS f "reason") && hxOk (.iff_ 0 r)))) then (xcS kt.tb.xc x).map fun j => .iff_ j.1 r else none
  | _ => none
def cX (kt : Kt) (sc : Scope) (n : Str) : List Stmt → Option HX
  | [.Return (some e) _] => cXe kt sc n e
  | _ => none
mutual
def cS (kt : Kt) (hot : Bool) : Nat → Scope → Stmt → Option S
  | 0, _, _ => none
  | n + 1, sc, st => Option.map (α := S) addLk (match st with
    | .Expr (.Constant (.str _) _ _) _ => some .pas
    | .Expr (.Call (.Attribute (.Name x _) m pa) args [] p') _ => if hot then none else if visB sc x && (nameB x && (pa.endLine == p'.line)) then (ixS kt.N x).bind fun i => (match args with
        | [] => if eqS m "pop" then some (.pop i) else none
        | [e] => if noStar e then (if eqS m "append" then (cE kt false n sc e).map fun ee => .app i ee else if eqS m "extend" then (cE kt false n sc e).map fun ee => .ext i ee else none) else none
        | _ => none) else none
    | .Expr e _ => if noComp e then (cE kt hot n sc e).map .ex else none
    | .Return none _ => some .ret0
    | .Return (some e) _ => (cE kt hot n sc e).map .ret
    | .Assign [.Name x px] e _ => (match e with
        | .ListComp elt gs scope lp => if hot then none else if strB sc x px lp scope || (!(lclB sc x) && locB sc x) then (ixS kt.N x).bind fun i => (cE kt false n sc (.ListComp elt gs scope lp)).map fun ee => .asg (.nm i) ee else none
        | e => if noComp e && locB sc x then (ixS kt.N x).bind fun i => (cE kt hot n sc e).map fun ee => .asg (.nm i) ee else none)
    | .Assign [.Tuple ts tj tp] e _ => if hot then none else (match e with
        | .Tuple vs j2 p2 => if funB sc then (match swB sc ts vs with
          | some none => (match parIx kt.N sc ts (vs.any newX) with
            | some is => (cEs kt false n sc vs).map fun ees => .par (is.map .nm) ees
            | none => (match cG kt none sc n (.Tuple ts tj tp) with
              | some (.tu us) => (cE kt false n sc (.Tuple vs j2 p2)).map fun ee => .asg (.tu us) ee
              | _ => (cP kt n sc ts).bind fun us => (cEs kt false n sc vs).map fun ees => .psub us ees))
          | some (some ys) => (match ts, vs with
            | [.Name x _, .Name y _], [a, b] => if lclB sc x && (lclB sc y && decide (ys = [x, y])) then (ixS kt.N x).bind fun i => (ixS kt.N y).bind fun l => if i = l then none else (cEs kt false n sc [a, b]).map fun ees => .par [.nm i, .nm l] ees else none
            | [.Name x _, .Name y _, .Name z _], [a, b, d] => if lclB sc x && (lclB sc y && (lclB sc z && decide (ys = [x, y, z]))) then (ixS kt.N x).bind fun i => (ixS kt.N y).bind fun l => (ixS kt.N z).bind fun m => if i = l ∨ i = m ∨ l = m then none else (cEs kt false n sc [a, b, d]).map fun ees => .par [.nm i, .nm l, .nm m] ees else none
            | _, _ => none)
          | none => none) else none
        | e => if noTup e then (cE kt false n sc e).bind fun ee => (cG kt none sc n (.Tuple ts tj tp)).bind fun t => (match t with
            | .tu us => some (.asg (.tu us) ee)
            | _ => none) else none)
    | .Assign [.Subscript (.Name x _) a _] e _ => if hot then none else if visB sc x && (nameB x && (noSlice a && (noComp e && noTup e))) then (ixS kt.N x).bind fun i => (cE kt false n sc a).bind fun ea => (cE kt false n sc e).map fun ee => .set i ea ee else none
    | .AugAssign (.Name x _) op e _ => if hot then none else if locB sc x then (augOp op).bind fun o => (ixS kt.N x).bind fun i => (cE kt false n sc e).map fun ee => .aug i o ee else none
    | .AugAssign (.Subscript (.Name x _) a _) op e _ => if hot then none else if visB sc x && (nameB x && noSlice a) then (augOp op).bind fun o => (ixS kt.N x).bind fun i => (cE kt false n sc a).bind fun ea => (cE kt false n sc e).map fun ee => .augs i ea o ee else none
    | .If e a b _ => if hot then none else if tOk n e then (cE kt false n sc e).bind fun ee => (cSs kt false n sc a).bind fun ea => (cSs kt false n sc b).map fun eb => .ifs ee ea eb else none
    | .For tg it body [] _ => if hot then none else if noSet it then (cI kt n sc (isTup tg) it).bind fun i => (cG kt none sc n tg).bind fun t => (cSs kt false n sc body).map fun b => .for_ t i.1 i.2 b else none
    | .While e body [] _ => if hot then none else if tOk n e then (cE kt false n sc e).bind fun ee => (cSs kt false n sc body).map fun b => .whl ee b else none
    | .Raise (some (.Call (.Name x _) [e] [] _)) none _ => if hot then none else if glB sc x && nameB x then (xcS kt.tb.xc x).bind fun r => if r.2 && strC e then some (.rse r.1 []) else if hasS kt.tb.ow x && noStar e then (cE kt false n sc e).map fun ee => .rse r.1 [ee] else none else none
    | .Try body (h₀ :: hs) [] [] _ => if hot then none else (cSs kt false n sc body).bind fun b => (cH kt n sc (h₀ :: hs)).map fun l => .try_ b l
    | .Break _ => some .brk
    | .Continue _ => some .cnt
    | .Pass _ => some .pas
    | _ => none)
def cSs (kt : Kt) (hot : Bool) : Nat → Scope → List Stmt → Option (List S)
  | 0, _, _ => none
  | n + 1, sc, sts => match sts with
    | [] => some []
    | st :: r => (cS kt hot n sc st).bind fun a => (cSs kt hot n sc r).map fun b => a :: b
def cH (kt : Kt) : Nat → Scope → List ExceptHandler → Option (List (Nat × List S))
  | 0, _, _ => none
  | n + 1, sc, hs => match hs with
    | [] => some []
    | .ExceptHandler (some (.Name x _)) none (b₀ :: suite) _ :: r => if glB sc x && nameB x then (xcS kt.tb.xc x).bind fun i => (cSs kt true n sc (b₀ :: suite)).bind fun s => if (hxOf s).isNone then (cH kt n sc r).map fun l => (i.1, s) :: l else none else none
    | .ExceptHandler (some (.Name x _)) (some nm) (b₀ :: suite) _ :: r => if (glB sc x && nameB x) && (lclB sc nm && nameB nm) then (xcS kt.tb.xc x).bind fun i => (ixS kt.N nm).bind fun ix => (cX kt sc nm (b₀ :: suite)).bind fun h => (cH kt n sc r).map fun l => (i.1, [.hx ix h]) :: l else none
    | _ => none
end
end Ev
set_option Elab.async false
set_option linter.all false
set_option maxRecDepth 100000
set_option maxHeartbeats 4000000
namespace Ev
open PySem PySem.Spec PyProof.Rows L2
section
variable {T : Ct} {c : Cc} {kt : Kt} {k : Nat}
theorem st_setLc {n : Nat} {X : Cx} {sc : Scope} {W : WX} (g : Gd X T c kt.tb kt.N none sc W k) {x : Str} {px lp pos : Pos} {elt : Expr} {gs : List Comprehension} {scope : Scope} {ee : E} {i : Nat} (hs : strB sc x px lp scope = true) (hi : eqOS kt.N[i]? x = true)
    (h : cE kt false n sc (.ListComp elt gs scope lp) = some ee) : PS X (.Assign [.Name x px] (.ListComp elt gs scope lp) pos) (semS T c W (.asg (.nm i) ee)) := by
  have hsw := strB_ok (elt := elt) (gs := gs) (l := pos.line) g.hsc hs
  obtain ⟨_, hl, _⟩ := ba3 hs
  have hl : X.env.scope.names.lookup x = some .local := by rw [g.hsc]; exact lclB_ok hl
  have hN : X.N[i]? = some x := by rw [g.hN]; exact eqOS_ok hi
  cases n with
  | zero => rw [cE.eq_def] at h; cases h
  | succ n =>
    have S := snd (T := T) (c := c) (kt := kt) (k := k) n
    rw [cE.eq_def] at h
    dsimp only at h
    split at h <;> first | (cases h; done) | skip
    all_goals (rename_i heq; cases heq)
    · obtain ⟨hh, h⟩ := ok_ h
      obtain ⟨hb, h⟩ := oi h
      obtain ⟨b1, b2⟩ := ba2 hb
      obtain ⟨i, h1, h⟩ := ob h
      obtain ⟨t, h2, h⟩ := ob h
      obtain ⟨cs, h3, h⟩ := ob h
      obtain ⟨ee, h4, h⟩ := ob h
      obtain ⟨hv, h⟩ := oi h
      cases h
      exact PS.mono (ps_setLc g.calm g.nd hN hl hsw (S.i g h1) (by rw [g.hN, g.hsc]; exact blkOk_by b1) (fun s H C cl fp => (cG_ok n).1 (g.blk s H C cl fp) h2) (fun s H C cl fp => S.ts (g.blk s H C cl fp) h3) (fun s H C cl fp => S.e (hot := false) (g.blk s H C cl fp).toGq (fun _ => g.blk s H C cl fp) h4) (noSet_ok b2 X.env)) fun D σ H q => s_lc_core g (mem_all hv) (asg_nm q)
    · obtain ⟨hh, h⟩ := ok_ h
      obtain ⟨hb, h⟩ := oi h
      obtain ⟨b1, b2, b3⟩ := ba3 hb
      obtain ⟨i, h1, h⟩ := ob h
      obtain ⟨t, h2, h⟩ := ob h
      obtain ⟨cs, h3, h⟩ := ob h
      obtain ⟨i1, h4, h⟩ := ob h
      obtain ⟨t1, h5, h⟩ := ob h
      obtain ⟨cs1, h6, h⟩ := ob h
      obtain ⟨ee, h7, h⟩ := ob h
      obtain ⟨hv, h⟩ := oi h
      obtain ⟨v1, v2⟩ := ba2 hv
      cases h
      exact PS.mono (ps_setLc2 g.calm g.nd hN hl hsw (S.i g h1) (by rw [g.hN, g.hsc]; exact blkOk_by b1) (mem_all v2) (fun s H C cl fp => (cG_ok n).1 (g.blk s H C cl fp) h2) (fun s H C cl fp => S.ts (g.blk s H C cl fp) h3) (fun s H C cl fp => S.i (g.blk s H C cl fp) h4) (fun s H C cl fp => (cG_ok n).1 (g.blk s H C cl fp) h5) (fun s H C cl fp => S.ts (g.blk s H C cl fp) h6)
        (fun s H C cl fp => S.e (hot := false) (g.blk s H C cl fp).toGq (fun _ => g.blk s H C cl fp) h7) (noSet_ok b2 X.env) (fun env x => noSet_ok b3 env x)) fun D σ H q => s_lc2_core g (mem_all v1) (fun _ h => h) (asg_nm q)
structure SndS (T : Ct) (c : Cc) (kt : Kt) (k n : Nat) : Prop where
  s : ∀ {X : Cx} {hot : Bool} {sc : Scope} {W : WX} (gq : Gq X T c kt.tb kt.N none sc k) (gd : hot = false → Gd X T c kt.tb kt.N none sc W k ∧ Fm X) {st : Stmt} {s : S}, cS kt hot n sc st = some s → PS X st (semS T c W s)
  l : ∀ {X : Cx} {hot : Bool} {sc : Scope} {W : WX} (gq : Gq X T c kt.tb kt.N none sc k) (gd : hot = false → Gd X T c kt.tb kt.N none sc W k ∧ Fm X) {st : List Stmt} {s : List S}, cSs kt hot n sc st = some s → PSs X st (semSs T c W s)
  h : ∀ {X : Cx} {sc : Scope} (gq : Gq X T c kt.tb kt.N none sc k) {hs : List ExceptHandler} {l : List (Nat × List S)}, cH kt n sc hs = some l → Hds X T c kt.tb sc hs l
theorem SndS.zero : SndS T c kt k 0 where
  s := fun {_ _ _ _} _ _ {_ _} h => by rw [cS.eq_def] at h; cases h
  l := fun {_ _ _ _} _ _ {_ _} h => by rw [cSs.eq_def] at h; cases h
  h := fun {_ _} _ {_ _} h => by rw [cH.eq_def] at h; cases h
theorem SndS.succ_l {n : Nat} (Z : SndS T c kt k n) {X : Cx} {hot : Bool} {sc : Scope} {W : WX} (gq : Gq X T c kt.tb kt.N none sc k) (gd : hot = false → Gd X T c kt.tb kt.N none sc W k ∧ Fm X) {st : List Stmt} {s : List S} (h : cSs kt hot (n + 1) sc st = some s) : PSs X st (semSs T c W s) := by
  rw [cSs.eq_def] at h
  cases st with
  | nil => cases h; exact ss_nil
  | cons a r =>
    obtain ⟨sa, h1, h⟩ := ob h
    obtain ⟨sb, h2, rfl⟩ := om h
    exact ss_cons (Z.s gq gd h1) (Z.l gq gd h2)
theorem hasS_ok' {l : List Str} {x : Str} (h : hasS l x = true) : x ∈ l := by
  obtain ⟨y, h1, h2⟩ := List.any_eq_true.mp h
  rw [← eqS_ok h2]
  exact h1
theorem cX_ok {X : Cx} {sc : Scope} (gq : Gq X T c kt.tb kt.N none sc k) {n : Str} {i : Nat} (hN : X.N[i]? = some n) (hl : X.env.kindOf n = some .local) (hn : nameB n = true) {st : List Stmt} {h : HX} (e : cX kt sc n st = some h) :
    hxOk h = true ∧ hxT kt.tb h ∧ ∀ (a : Addr) (oe : Obj) (cls : Value) (d : Option Addr) (pn : List (Addr × Obj)), Zc cls d oe → (∃ vs, oe.data = .fields vs) → PSs (X.suite a ((a, oe) :: pn)) st (tHX X T i h a cls d) := by
  have hv : Vis X.env.scope n := .inl hl
  unfold cX at e
  split at e
  · rename_i ex pr
    have ret : ∀ {a : Addr} {oe : Obj} {pn : List (Addr × Obj)} {te : TE} {t : TS}, PE (X.suite a ((a, oe) :: pn)) ex te → (∀ D σ H, t D σ H → te σ H fun v H1 => D.rt v H1) → PSs (X.suite a ((a, oe) :: pn)) [.Return (some ex) pr] t := fun {a oe pn te t} hp k => PSs.mono (pss_cons (ps_ret hp) pss_nil) fun D σ H q => k D σ H q
    unfold cXe at e
    split at e
    · obtain ⟨q, e⟩ := oi e
      obtain ⟨q1, q2⟩ := ba2 q
      cases e
      rw [eqS_ok q1, eqS_ok q2] at ret ⊢
      exact ⟨rfl, trivial, fun a oe cls d pn hz hf => ret (te := tFld X.K i a cls d) (x_fld hz hf hN hv hn) fun D σ H q => q⟩
    · obtain ⟨q, e⟩ := oi e
      obtain ⟨q1, q2⟩ := ba2 q
      rw [eqS_ok q1, eqS_ok q2] at ret ⊢
      have go : ∀ {z : D}, hxOk (.pr z) = true → (∀ {a : Addr} {oe : Obj} {pn : List (Addr × Obj)} {j : Nat} {p : Pos}, PE (X.suite a ((a, oe) :: pn)) (.Constant _ j p) (tC (hxV z))) → (hxOk (.pr z) = true ∧ hxT kt.tb (.pr z) ∧ ∀ (a : Addr) (oe : Obj) (cls : Value) (d : Option Addr) (pn : List (Addr × Obj)), Zc cls d oe → (∃ vs, oe.data = .fields vs) → PSs (X.suite a ((a, oe) :: pn)) _ (tHX X T i (.pr z) a cls d)) := fun {z} h1 h2 =>
        ⟨h1, trivial, fun a oe cls d pn hz hf => ret (te := tTup (tCons (tC (hxV z)) (tCons (tFld X.K i a cls d) tNil))) (pe_tup (pa_cons h2 (pa_cons (x_fld hz hf hN hv hn) pa_nil))) fun D σ H q => by
          obtain ⟨s1, C, dd, v, e1, e2, e3, e4, e5, q⟩ := q
          exact ⟨s1, C, dd, v, e1, e2, e3, e4, e5, by show 2 ≤ sizeLine; rw [sizeLine_eq]; omega, q⟩⟩
      split at e
      · cases e
        exact go rfl pe_int
      · obtain ⟨q3, e⟩ := oi e
        cases e
        exact go q3 pe_str
      · cases e
    · obtain ⟨q, e⟩ := oi e
      obtain ⟨q, q3⟩ := ba2 q
      obtain ⟨q1, q2⟩ := ba2 q
      cases e
      rw [eqS_ok q1, eqS_ok q2] at ret ⊢
      refine ⟨q3, trivial, fun a oe cls d pn hz hf => ret (pe_op op_add_str (pe_op op_add_str pe_str (x_fld hz hf hN hv hn)) pe_str) fun D σ H q => ?_⟩
      obtain ⟨s1, C, dd, v, e1, e2, e3, e4, e5, y, ey, l1, l2, q⟩ := q
      exact ⟨s1, C, dd, v, e1, e2, e3, e4, e5, _, y, rfl, ey, l1, _, _, rfl, rfl, l2, q⟩
    · obtain ⟨q, e⟩ := oi e
      obtain ⟨g, q⟩ := ba2 q
      obtain ⟨g1, g⟩ := ba2 g
      obtain ⟨g2, g3⟩ := ba2 g
      obtain ⟨q1, q⟩ := ba2 q
      obtain ⟨q1, kx⟩ := ba2 q1
      obtain ⟨q2, q3⟩ := ba2 q
      obtain ⟨q2, q4⟩ := ba2 q2
      obtain ⟨⟨j, b⟩, h1, rfl⟩ := om e
      have h1 := xcS_ok h1
      obtain ⟨J, j1, j2, _⟩ := gq.tab.xc j _ _ h1
      rw [eqS_ok g1] at ret g2 g3 ⊢
      rw [eqS_ok q1] at ret ⊢
      refine ⟨q3, ⟨kx, _, _, h1⟩, fun a oe cls d pn hz hf => ret (pe_ifExp (pt_val (x_isx (J := J) hz hf hN hv hn (glB_ok gq.hsc g3) (gq.tab.fr _ (hasS_ok' g2)) (glB_ok gq.hsc q2) j2 q4)) pe_str pe_str) fun D σ H q => ?_⟩
      obtain ⟨J', e0, s1, C, b', e1, e2, e3, e4, b2, e5, q⟩ := q
      rw [j1] at e0
      cases e0
      cases e5
      refine ⟨s1, C, b', e1, e2, e3, e4, b', rfl, ?_⟩
      cases b' <;> exact q
    · obtain ⟨q, e⟩ := oi e
      obtain ⟨g, q⟩ := ba2 q
      obtain ⟨g1, g⟩ := ba2 g
      obtain ⟨g2, g3⟩ := ba2 g
      obtain ⟨q1, q⟩ := ba2 q
      obtain ⟨q1, kx⟩ := ba2 q1
      obtain ⟨q2, q3⟩ := ba2 q
      obtain ⟨q2, q4⟩ := ba2 q2
      obtain ⟨q5, q3⟩ := ba2 q3
      obtain ⟨q5, q6⟩ := ba2 q5
      obtain ⟨⟨j, b⟩, h1, rfl⟩ := om e
      have h1 := xcS_ok h1
      obtain ⟨J, j1, j2, _⟩ := gq.tab.xc j _ _ h1
      rw [eqS_ok g1] at ret g2 g3 ⊢
      rw [eqS_ok q1, eqS_ok q5, eqS_ok q6] at ret ⊢
      refine ⟨q3, ⟨kx, _, _, h1⟩, fun a oe cls d pn hz hf => ret (pe_ifExp (pt_val (x_isx (J := J) hz hf hN hv hn (glB_ok gq.hsc g3) (gq.tab.fr _ (hasS_ok' g2)) (glB_ok gq.hsc q2) j2 q4)) (x_fld hz hf hN hv hn) pe_str) fun D σ H q => ?_⟩
      obtain ⟨J', e0, s1, C, b', e1, e2, e3, e4, b2, e5, q⟩ := q
      rw [j1] at e0
      cases e0
      cases e5
      refine ⟨s1, C, b', e1, e2, e3, e4, b', rfl, ?_⟩
      cases b' <;> exact q
    · cases e
  · cases e
theorem SndS.succ_h {n : Nat} (Z : SndS T c kt k n) {X : Cx} {sc : Scope} (gq : Gq X T c kt.tb kt.N none sc k) {hs : List ExceptHandler} {l : List (Nat × List S)} (h : cH kt (n + 1) sc hs = some l) : Hds X T c kt.tb sc hs l := by
  rw [cH.eq_def] at h
  dsimp only at h
  split at h
  · cases h; exact .nil
  · obtain ⟨q, h⟩ := oi h
    obtain ⟨q1, q2⟩ := ba2 q
    obtain ⟨i, h1, h⟩ := ob h
    obtain ⟨s, h2, h⟩ := ob h
    obtain ⟨hno, h⟩ := oi h
    obtain ⟨l, h3, rfl⟩ := om h
    obtain ⟨i, b⟩ := i
    exact .cons (xcS_ok h1) q1 q2 (by simpa using hno) (fun a pn => Z.l (hot := true) gq.suite (fun z => nomatch z) h2) (Z.h gq h3)
  · rename_i xn _ nm _ _ _ _
    obtain ⟨q, h⟩ := oi h
    obtain ⟨q, q'⟩ := ba2 q
    obtain ⟨q1, q2⟩ := ba2 q
    obtain ⟨q3, q4⟩ := ba2 q'
    obtain ⟨i, h1, h⟩ := ob h
    obtain ⟨ix, h2, h⟩ := ob h
    obtain ⟨w, h3, h⟩ := ob h
    obtain ⟨l, h4, rfl⟩ := om h
    obtain ⟨i, b⟩ := i
    have hN : X.N[ix]? = some nm := by rw [gq.hN]; exact eqOS_ok (ixS_ok h2)
    have hl : X.env.kindOf nm = some .local := by
      have z := lclB_ok q3
      rw [← gq.hsc] at z
      exact z
    obtain ⟨c1, c2, c3⟩ := cX_ok gq hN hl q4 h3
    exact .named (xcS_ok h1) q1 q2 hN hl c1 c2 c3 (Z.h gq h4)
  · cases h
end
end Ev
set_option Elab.async false
set_option linter.all false
set_option maxRecDepth 100000
set_option maxHeartbeats 4000000
namespace Ev
open PySem PySem.Spec PyProof.Rows L2
section
variable {T : Ct} {c : Cc} {kt : Kt} {k : Nat}
theorem Fm.tr {X : Cx} (f : Fm X) {pn : List (Addr × Obj)} {xe : Value → Shared → Prop} : Fm (X.tr pn xe) := ⟨f.hs, f.hf⟩
theorem nmIx_ok {X : Cx} {sc : Scope} {W : WX} (g : Gd X T c kt.tb kt.N none sc W k) : ∀ {es : List Expr} {is : List Nat}, nmIx kt.N sc es = some is → PGs X es (nG is) ∧ es.all noStar = true ∧ es.length = is.length
  | [], is, h => by
    cases h
    exact ⟨gsN_nil, rfl, rfl⟩
  | e :: r, is, h => by
    cases e <;> first | (cases h; done) | skip
    rename_i x p
    have h : (if locB sc x then (ixS kt.N x).bind fun i => (nmIx kt.N sc r).map fun l => i :: l else none) = some is := h
    replace h := oi h
    obtain ⟨q, h⟩ := h
    replace h := ob h
    obtain ⟨i, h1, h⟩ := h
    replace h := om h
    obtain ⟨l, h2, rfl⟩ := h
    obtain ⟨p1, p2, p3⟩ := nmIx_ok g h2
    exact ⟨gsN_cons g (ixS_ok h1) q p1, by rw [List.all_cons, p2]; rfl, by rw [List.length_cons, List.length_cons, p3]⟩
theorem parIx_ok {X : Cx} {sc : Scope} {W : WX} (g : Gd X T c kt.tb kt.N none sc W k) {es : List Expr} {is : List Nat} {fr : Bool} (h : parIx kt.N sc es fr = some is) : PGs X es (nG is) ∧ es.all noStar = true ∧ es.length = is.length ∧ is.length ≤ 1000 := by
  unfold parIx at h
  replace h := oi h
  obtain ⟨q, h⟩ := h
  obtain ⟨p1, p2, p3⟩ := nmIx_ok g h
  obtain ⟨q1, q2⟩ := ba2 q
  have q2 := of_decide_eq_true q2
  exact ⟨p1, p2, p3, by omega⟩
theorem cP_ok {X : Cx} {sc : Scope} {W : WX} (g : Gd X T c kt.tb kt.N none sc W k) : ∀ {n : Nat} {es : List Expr} {ts : List (Nat × List E)}, cP kt n sc es = some ts → PGs X es (semP T c W ts) ∧ es.all noStar = true ∧ es.length = ts.length
  | 0, es, ts, h => by rw [cP.eq_def] at h; cases h
  | n + 1, es, ts, h => by
    rw [cP.eq_def] at h
    dsimp only at h
    split at h
    · cases h; exact ⟨p_nil, rfl, rfl⟩
    · replace h := oi h
      obtain ⟨q, h⟩ := h
      replace h := ob h
      obtain ⟨i, h1, h⟩ := h
      replace h := om h
      obtain ⟨l, h2, rfl⟩ := h
      obtain ⟨p1, p2, p3⟩ := cP_ok g h2
      exact ⟨p_nm g (ixS_ok h1) q rfl p1, by rw [List.all_cons, p2]; rfl, by rw [List.length_cons, List.length_cons, p3]⟩
    · replace h := oi h
      obtain ⟨q, h⟩ := h
      obtain ⟨q1, q2, q3⟩ := ba3 q
      replace h := ob h
      obtain ⟨i, h1, h⟩ := h
      replace h := ob h
      obtain ⟨ea, h3, h⟩ := h
      replace h := om h
      obtain ⟨l, h2, rfl⟩ := h
      obtain ⟨p1, p2, p3⟩ := cP_ok g h2
      exact ⟨p_sub g (ixS_ok h1) q1 q2 q3 ((snd n).e g.toGq (fun _ => g) h3) p1, by rw [List.all_cons, p2]; rfl, by rw [List.length_cons, List.length_cons, p3]⟩
    · cases h
theorem SndS.succ_s {n : Nat} (Z : SndS T c kt k n) {X : Cx} {hot : Bool} {sc : Scope} {W : WX} (gq : Gq X T c kt.tb kt.N none sc k) (gd : hot = false → Gd X T c kt.tb kt.N none sc W k ∧ Fm X) {st : Stmt} {s : S} (h : cS kt hot (n + 1) sc st = some s) : PS X st (semS T c W s) := by
  have S := snd (T := T) (c := c) (kt := kt) (k := k) n
  have gd1 := fun h => (gd h).1
  rw [cS.eq_def] at h
  dsimp only at h
  replace h := om h
  obtain ⟨s, h, rfl⟩ := h
  refine st_addLk ?_
  split at h
  · cases h; exact st_doc
  · replace h := ok_ h
    obtain ⟨hh, h⟩ := h
    have g := gd1 hh
    replace h := oi h
    obtain ⟨q, h⟩ := h
    obtain ⟨q1, q2, q3⟩ := ba3 q
    replace h := ob h
    obtain ⟨i, h1, h⟩ := h
    have hi := ixS_ok h1
    split at h
    · replace h := oi h
      obtain ⟨hm, h⟩ := h
      cases h
      rw [eqS_ok hm]
      exact st_pop g hi q1 q2 q3
    · replace h := oi h
      obtain ⟨he, h⟩ := h
      split at h
      · rename_i hm
        rw [eqS_ok hm]
        replace h := om h
        obtain ⟨ee, h2, rfl⟩ := h
        exact st_app g hi q1 q2 he q3 (a_cons he (S.e g.toGq (fun _ => g) h2) a_nil)
      · replace h := oi h
        obtain ⟨hm, h⟩ := h
        rw [eqS_ok hm]
        replace h := om h
        obtain ⟨ee, h2, rfl⟩ := h
        exact st_ext g hi q1 q2 he q3 (a_cons he (S.e g.toGq (fun _ => g) h2) a_nil)
    · cases h
  · replace h := oi h
    obtain ⟨hc, h⟩ := h
    replace h := om h
    obtain ⟨ee, h2, rfl⟩ := h
    exact st_ex (S.e gq gd1 h2) (noComp_ok hc _ _ _)
  · cases h; exact st_ret0
  · replace h := om h
    obtain ⟨ee, h2, rfl⟩ := h
    exact st_ret (S.e gq gd1 h2)
  · split at h
    · replace h := ok_ h
      obtain ⟨hh, h⟩ := h
      replace h := oi h
      obtain ⟨hs, h⟩ := h
      replace h := ob h
      obtain ⟨i, h1, h⟩ := h
      replace h := om h
      obtain ⟨ee, h2, rfl⟩ := h
      rw [Bool.or_eq_true] at hs
      rcases hs with hs | hs
      · exact st_setLc (gd1 hh) hs (ixS_ok h1) h2
      · obtain ⟨s1, s2⟩ := ba2 hs
        exact st_set gq (ixS_ok h1) s2 rfl (strB_no gq.hsc (by simpa using s1)) (S.e (gd1 hh).toGq (fun _ => gd1 hh) h2)
    · replace h := oi h
      obtain ⟨q, h⟩ := h
      obtain ⟨q1, q2⟩ := ba2 q
      replace h := ob h
      obtain ⟨i, h1, h⟩ := h
      replace h := om h
      obtain ⟨ee, h2, rfl⟩ := h
      exact st_set gq (ixS_ok h1) q2 rfl (noComp_ok q1 _ _ _) (S.e gq gd1 h2)
  · replace h := ok_ h
    obtain ⟨hh, h⟩ := h
    have g := gd1 hh
    split at h
    · replace h := oi h
      obtain ⟨hf, h⟩ := h
      have hk := funB_ok hf
      split at h
      · rename_i hw
        split at h
        · rename_i is hp
          replace h := om h
          obtain ⟨ees, h2, rfl⟩ := h
          obtain ⟨p1, p2, p3, p4⟩ := parIx_ok g hp
          exact st_parN g p2 p3 p4 (swB_ok hk g.hsc hw) (S.es g.toGq (fun _ => g) h2).1 p1
        · split at h
          · rename_i us hg
            replace h := om h
            obtain ⟨ee, h1, rfl⟩ := h
            exact st_asgT g (swB_ok hk g.hsc hw) (S.e g.toGq (fun _ => g) h1) ((cG_ok n).1 g hg)
          · replace h := ob h
            obtain ⟨us, h1, h⟩ := h
            replace h := om h
            obtain ⟨ees, h2, rfl⟩ := h
            obtain ⟨p1, p2, p3⟩ := cP_ok g h1
            exact st_psub g p2 p3 (swB_ok hk g.hsc hw) (S.es g.toGq (fun _ => g) h2).1 p1
      · rename_i ys hw
        split at h
        · replace h := oi h
          obtain ⟨q, h⟩ := h
          obtain ⟨q1, q2, q3⟩ := ba3 q
          have q3 := of_decide_eq_true q3
          subst q3
          replace h := ob h
          obtain ⟨i, h1, h⟩ := h
          replace h := ob h
          obtain ⟨l, h2, h⟩ := h
          replace h := oj h
          obtain ⟨ne, h⟩ := h
          replace h := om h
          obtain ⟨ees, h3, rfl⟩ := h
          exact st_par2 g (ixS_ok h1) (ixS_ok h2) ne (lclB_ok q1) (lclB_ok q2) (swB_ok hk g.hsc hw) (S.es g.toGq (fun _ => g) h3).1
        · replace h := oi h
          obtain ⟨q, h⟩ := h
          obtain ⟨q1, q2, q3⟩ := ba3 q
          obtain ⟨q5, q4⟩ := ba2 q3
          have q4 := of_decide_eq_true q4
          subst q4
          replace h := ob h
          obtain ⟨i, h1, h⟩ := h
          replace h := ob h
          obtain ⟨l, h2, h⟩ := h
          replace h := ob h
          obtain ⟨m, h3, h⟩ := h
          replace h := oj h
          obtain ⟨ne, h⟩ := h
          replace h := om h
          obtain ⟨ees, h4, rfl⟩ := h
          exact st_par3 g (ixS_ok h1) (ixS_ok h2) (ixS_ok h3) (fun z => ne (.inl z)) (fun z => ne (.inr (.inl z))) (fun z => ne (.inr (.inr z))) (lclB_ok q1) (lclB_ok q2) (lclB_ok q5) (swB_ok hk g.hsc hw) (S.es g.toGq (fun _ => g) h4).1
        · cases h
      · cases h
    · replace h := oi h
      obtain ⟨hf, h⟩ := h
      replace h := ob h
      obtain ⟨ee, h1, h⟩ := h
      replace h := ob h
      obtain ⟨t, h2, h⟩ := h
      split at h
      · cases h
        exact st_asgT g (noTup_ok hf _) (S.e g.toGq (fun _ => g) h1) ((cG_ok n).1 g h2)
      · cases h
  · replace h := ok_ h
    obtain ⟨hh, h⟩ := h
    have g := gd1 hh
    replace h := oi h
    obtain ⟨q, h⟩ := h
    obtain ⟨q1, q2, q3⟩ := ba3 q
    obtain ⟨q3, q4, q5⟩ := ba3 q3
    replace h := ob h
    obtain ⟨i, h1, h⟩ := h
    replace h := ob h
    obtain ⟨ea, h2, h⟩ := h
    replace h := om h
    obtain ⟨ee, h3, rfl⟩ := h
    exact st_setx g (ixS_ok h1) q1 q2 q3 q4 q5 (S.e g.toGq (fun _ => g) h2) (S.e g.toGq (fun _ => g) h3)
  · replace h := ok_ h
    obtain ⟨hh, h⟩ := h
    have g := gd1 hh
    replace h := oi h
    obtain ⟨q, h⟩ := h
    replace h := ob h
    obtain ⟨o, h1, h⟩ := h
    replace h := ob h
    obtain ⟨i, h2, h⟩ := h
    replace h := om h
    obtain ⟨ee, h3, rfl⟩ := h
    exact st_aug g h1 (ixS_ok h2) q rfl (S.e g.toGq (fun _ => g) h3)
  · replace h := ok_ h
    obtain ⟨hh, h⟩ := h
    have g := gd1 hh
    replace h := oi h
    obtain ⟨q, h⟩ := h
    obtain ⟨q1, q2, q3⟩ := ba3 q
    replace h := ob h
    obtain ⟨o, h1, h⟩ := h
    replace h := ob h
    obtain ⟨i, h2, h⟩ := h
    replace h := ob h
    obtain ⟨ea, h3, h⟩ := h
    replace h := om h
    obtain ⟨ee, h4, rfl⟩ := h
    exact st_augs g h1 (ixS_ok h2) q1 q2 q3 (S.e g.toGq (fun _ => g) h3) (S.e g.toGq (fun _ => g) h4)
  · replace h := ok_ h
    obtain ⟨hh, h⟩ := h
    have g := gd1 hh
    replace h := oi h
    obtain ⟨q, h⟩ := h
    replace h := ob h
    obtain ⟨ee, h1, h⟩ := h
    replace h := ob h
    obtain ⟨ea, h2, h⟩ := h
    replace h := om h
    obtain ⟨eb, h3, rfl⟩ := h
    exact st_ifs (S.t g.toGq (fun _ => g) q h1) (Z.l (hot := false) gq (fun _ => gd hh) h2) (Z.l (hot := false) gq (fun _ => gd hh) h3)
  · replace h := ok_ h
    obtain ⟨hh, h⟩ := h
    have g := gd1 hh
    replace h := oi h
    obtain ⟨q, h⟩ := h
    replace h := ob h
    obtain ⟨i, h1, h⟩ := h
    replace h := ob h
    obtain ⟨t, h2, h⟩ := h
    replace h := om h
    obtain ⟨b, h3, rfl⟩ := h
    exact st_for g (S.i g h1) ((cG_ok n).1 g h2) (Z.l (hot := false) gq (fun _ => gd hh) h3) (noSet_ok q X.env)
  · replace h := ok_ h
    obtain ⟨hh, h⟩ := h
    have g := gd1 hh
    replace h := oi h
    obtain ⟨q, h⟩ := h
    replace h := ob h
    obtain ⟨ee, h1, h⟩ := h
    replace h := om h
    obtain ⟨b, h3, rfl⟩ := h
    exact st_whl g (S.t g.toGq (fun _ => g) q h1) (Z.l (hot := false) gq (fun _ => gd hh) h3)
  · replace h := ok_ h
    obtain ⟨hh, h⟩ := h
    have g := gd1 hh
    replace h := oi h
    obtain ⟨q, h⟩ := h
    obtain ⟨q1, q2⟩ := ba2 q
    replace h := ob h
    obtain ⟨⟨i, b⟩, h1, h⟩ := h
    dsimp only at h
    split at h
    · rename_i hb
      obtain ⟨hb, hc⟩ := ba2 hb
      have hb : b = true := hb
      subst hb
      obtain ⟨m, j, p, rfl⟩ := strC_ok hc
      cases h
      exact st_rse g (xcS_ok h1) q1 q2
    · replace h := oi h
      obtain ⟨q3, h⟩ := h
      obtain ⟨q3, q4⟩ := ba2 q3
      replace h := om h
      obtain ⟨ee, h2, rfl⟩ := h
      exact st_rsx g (xcS_ok h1) (hasS_ok' q3) q1 q2 q4 (S.e (hot := false) g.toGq (fun _ => g) h2)
  · replace h := ok_ h
    obtain ⟨hh, h⟩ := h
    obtain ⟨g, fm⟩ := gd hh
    replace h := ob h
    obtain ⟨b, h1, h⟩ := h
    replace h := om h
    obtain ⟨l, h2, rfl⟩ := h
    exact st_try g fm (fun W' pn xe g' => Z.l (hot := false) g'.toGq (fun _ => ⟨g', fm.tr⟩) h1) (Z.h gq h2)
  · cases h; exact st_brk
  · cases h; exact st_cnt
  · cases h; exact st_pass
  · cases h
theorem sndS : ∀ n : Nat, SndS T c kt k n
  | 0 => SndS.zero
  | n + 1 => {
    s := (sndS n).succ_s
    l := (sndS n).succ_l
    h := (sndS n).succ_h }
end
end Ev
set_option Elab.async false
set_option linter.all false
set_option maxRecDepth 100000
set_option maxHeartbeats 4000000
namespace Ev
open PySem PySem.Spec PyProof.Rows L2
/-! ### a def -/
theorem lend {X : Ct} {Hf H : Hp} {s : Sg} : ∀ {H0 G : Hp} {xs : List VD} {vs : List V}, Stp X G H s G H s → RVs X Hf H0 G H xs vs → (∀ x ∈ xs, x.1 ≠ .fr) →
    ∃ G1, Sub G G1 ∧ Stp X G1 H s G1 H s ∧ RDs X.K X.ad G1 vs (dat xs) ∧ (∀ a o, G1 a = some o → G a = some o ∨ ∃ ys, o = .lst ys) ∧ (xs.any isLo = false → G1 = G)
  | H0, G, [], [], t, r, hx => ⟨G, Sub.refl _, t, .nil, fun _ _ e => .inl e, fun _ => rfl⟩
  | H0, G, [], _ :: _, t, r, hx => r.elim
  | H0, G, _ :: _, [], t, r, hx => r.elim
  | H0, G, x :: xs, v :: vs, t, ⟨rx, H1, _, _, r⟩, hx => by
    obtain ⟨G1, g1, t1, r1, m1, e1⟩ := lend t r (fun y hy => hx y (List.mem_cons_of_mem _ hy))
    obtain ⟨kx, dx⟩ := x
    cases kx with
    | fr => exact absurd rfl (hx _ (List.mem_cons_self ..))
    | sh => exact ⟨G1, g1, t1, .cons (RD.mono g1 rx) r1, m1, fun z => e1 (by rw [List.any_cons, Bool.or_eq_false_iff] at z; exact z.2)⟩
    | lo =>
      obtain ⟨a, ys, ds, k1, k2, k3, k4, k5, k6, k7, k8⟩ := rx
      cases k1
      cases k2
      have no : ¬ ((Kd.lo, D.lst ds) :: xs).any isLo = false := fun z => by
        rw [List.any_cons, Bool.or_eq_false_iff] at z
        exact nomatch z.1
      cases q : G1 a with
      | some o =>
        have eo := t1.s _ _ q
        rw [k3] at eo; cases eo
        exact ⟨G1, g1, t1, .cons (.lst q (k6.mono g1)) r1, m1, fun z => absurd z no⟩
      | none =>
        have sb : Sub (upd G1 a (.lst ys)) H := fun b u e => by
          by_cases hb : b = a
          · subst hb; rw [upd_same] at e; rw [← e]; exact k3
          · rw [upd_ne hb] at e; exact t1.s _ _ e
        refine ⟨upd G1 a (.lst ys), g1.trans (Sub.upd q), .refl sb (t1.r.upG k5 q), .cons (.lst upd_same (k6.mono (g1.trans (Sub.upd q)))) (r1.mono (Sub.upd q)), fun b o e => ?_, fun z => absurd z no⟩
        by_cases hb : b = a
        · subst hb; rw [upd_same] at e; cases e; exact .inr ⟨_, rfl⟩
        · rw [upd_ne hb] at e; exact m1 b o e
/-- the ground without what was lent -/
def unlend (G G' : Hp) : Hp := fun a => match G a with
  | some o => some o
  | none => match G' a with
    | some (.tup xs) => some (.tup xs)
    | some (.frz o (.tup xs)) => some (.frz o (.tup xs))
    | _ => none
theorem unlend_sub {G G' : Hp} (h : Sub G G') : Sub (unlend G G') G' := fun a o e => by
  unfold unlend at e
  cases q : G a with
  | some u => rw [q] at e; cases e; exact h _ _ q
  | none =>
    rw [q] at e
    dsimp only at e
    split at e
    · cases e; assumption
    · cases e; assumption
    · cases e
theorem unlend_rd {G G' : Hp} (h : Sub G G') {a : Addr} {xs : List V} (r : Rd G' a (.tup xs)) : Rd (unlend G G') a (.tup xs) := by
  rcases r with r | ⟨o, r⟩
  · refine .inl ?_
    unfold unlend
    cases q : G a with
    | some u => rw [h _ _ q] at r; exact r
    | none => simp only [r]
  · refine .inr ⟨o, ?_⟩
    unfold unlend
    cases q : G a with
    | some u => rw [h _ _ q] at r; exact r
    | none => simp only [r]
section
variable {K : PySem.W.Frag} {ad : Option Addr} {G G' : Hp}
mutual
theorem RD.unlend (h : Sub G G') : ∀ {v : V} {d : D}, RD K ad G' v d → lf d = true → RD K ad (Ev.unlend G G') v d
  | _, _, .non, _ => .non
  | _, _, .bl b, _ => .bl b
  | _, _, .int i, _ => .int i
  | _, _, .str x y, _ => .str x y
  | _, _, .tup k r, e => .tup (k.elim (fun k => .inl (unlend_rd h k)) .inr) (RDs.unlend h r (by simpa [lf] using e))
  | _, _, .lst k r, e => by simp [lf] at e
  | _, _, .scr k, e => by simp [lf] at e
  | _, _, .drw k, _ => .drw k
theorem RDs.unlend (h : Sub G G') : ∀ {vs : List V} {ds : List D}, RDs K ad G' vs ds → lfs ds = true → RDs K ad (Ev.unlend G G') vs ds
  | _, _, .nil, _ => .nil
  | _, _, .cons k r, e => by
    obtain ⟨e1, e2⟩ := ba2 (show (lf _ && lfs _) = true from by simpa [lfs] using e)
    exact .cons (RD.unlend h k e1) (RDs.unlend h r e2)
end
end
theorem Stp.unlend {X : Ct} {G G1 H G' H' : Hp} {s s' : Sg} (t0 : Stp X G H s G H s) (g : Sub G G1) (m : ∀ a o, G1 a = some o → G a = some o ∨ ∃ ys, o = .lst ys) (t : Stp X G1 H s G' H' s') : Stp X G H s (Ev.unlend G G') H' s' where
  g := fun a o e => by unfold Ev.unlend; rw [e]
  h := t.h
  n := t.n
  f := fun a e k => by
    unfold Ev.unlend
    rw [e]
    cases q : G1 a with
    | none => simp only [t.f a q k]
    | some o =>
      have q' := t.g _ _ q
      rcases m a o q with z | ⟨ys, rfl⟩
      · rw [e] at z; cases z
      · simp only [q']
  s := (unlend_sub (g.trans t.g)).trans t.s
  r := by
    have r := t.r
    have r0 := t0.r
    unfold Rs at *
    cases e : X.ad with
    | none => cases s' with
      | none => trivial
      | some d => rw [e] at r; exact r.elim
    | some a => cases s' with
      | none => rw [e] at r; exact r.elim
      | some d =>
        rw [e] at r r0
        cases s with
        | none => exact r0.elim
        | some d0 =>
          obtain ⟨k, q, z⟩ := r
          obtain ⟨k0, q0, z0⟩ := r0
          refine ⟨?_, q, ?_⟩
          · unfold Ev.unlend; rw [k0]; simp only [k]
          · have := (g.trans t.g) _ _ z0
            rw [z] at this
            unfold Ev.unlend; rw [z0]; exact this.symm
theorem start_len {N : List Str} {vs : List V} (h : vs.length ≤ N.length) : (L2.start N vs).length = N.length := by
  unfold L2.start
  rw [List.length_append, List.length_map, List.length_replicate]
  omega
theorem ER.start {X : Ct} {H G : Hp} {N : List Str} {vs : List V} {xs : List VD} {fn : Fn} (hn : fn.n = N.length) (hp : xs.length = fn.np) (hl : xs.length ≤ N.length) (r : RDs X.K X.ad G vs (dat xs)) : ER X H G H (envOf fn xs) (L2.start N vs) := by
  have lv : vs.length = xs.length := by rw [r.length]; exact List.length_map _
  have no : ∀ {i : Nat} {d : D} {b : Bool}, (envOf fn xs)[i]? = some (some (b, d)) → b = false ∧ (dat xs)[i]? = some d := fun {i d b} h => by
    unfold envOf at h
    by_cases lt : i < xs.length
    · rw [List.getElem?_append_left (by simpa using lt), List.getElem?_map, List.getElem?_eq_getElem lt] at h
      cases h
      refine ⟨rfl, ?_⟩
      show (xs.map fun x => x.2)[i]? = _
      rw [List.getElem?_map, List.getElem?_eq_getElem lt]; rfl
    · rw [List.getElem?_append_right (by simpa using Nat.le_of_not_lt lt), List.getElem?_replicate] at h
      split at h <;> cases h
  refine ⟨?_, fun i d h => ?_, (fun i d h => absurd (no h).1 Bool.noConfusion), (fun i j d e a h => absurd (no h).1 Bool.noConfusion)⟩
  · rw [start_len (by omega)]
    unfold envOf
    rw [List.length_append, List.length_map, List.length_replicate]
    omega
  · obtain ⟨_, h⟩ := no h
    obtain ⟨v, h1, h2⟩ := r.get h
    refine ⟨v, ?_, h2⟩
    have lt : i < vs.length := (List.getElem?_eq_some_iff.mp h1).1
    unfold L2.start
    rw [List.getElem?_append_left (by simpa using lt), List.getElem?_map, h1]; rfl
theorem lent_ok {x z : VD} (h : Ev.lent true x = some z) : (∃ l, x = (.fr, .lst l) ∧ z = (.fr, .lst l) ∧ lfs l = true) ∨ (z = (.sh, x.2) ∧ lf x.2 = true) := by
  obtain ⟨k, d⟩ := x
  have go : (if lf d = true then some (Kd.sh, d) else none) = some z → (z = (.sh, d) ∧ lf d = true) := fun h => by
    obtain ⟨hf, h⟩ := oi h
    cases h
    exact ⟨rfl, hf⟩
  cases k with
  | fr =>
    cases d with
    | lst l =>
      have h : (if lfs l = true then some (Kd.fr, D.lst l) else none) = some z := h
      obtain ⟨hf, h⟩ := oi h
      cases h
      exact .inl ⟨l, rfl, rfl, hf⟩
    | _ => exact .inr (go h)
  | sh => exact .inr (go h)
  | lo => exact .inr (go h)
/-- a def's body keeps the def's promise -/
theorem body_ok {X : Ct} {c : Cc} {fn : Fn} {N : List Str} {call : List VD → Sg → Out VD} {vs : List V} {H : Hp} {Q : VK} {E : XK} (hn : fn.n = N.length) (hle : fn.np ≤ N.length)
    (hc : ∀ xs s, call xs s = if xs.length = fn.np then backF (xs.any isLo) (evSs c fn.body (envOf fn xs) s) else .stk) (h : spF X call fn.np vs H Q E) :
    semSs X c (fun cls d _ H' => E cls d H') fn.body { nx := fun _ H' => Q .non H', rt := Q } (L2.start N vs) H := by
  obtain ⟨hl, Hf, H0, G, s, xs, t, rs, hx, q⟩ := h
  rw [hc] at q
  split at q
  · rename_i hp
    obtain ⟨G1, g1, t1, r1, m1, e1⟩ := lend t rs hx
    refine ⟨G1, H, s, G1, s, envOf fn xs, t1, ER.start hn hp (by omega) r1, ?_⟩
    cases b : xs.any isLo with
    | false =>
      rw [b] at q
      have eG := e1 b
      subst eG
      cases e4 : evSs c fn.body (envOf fn xs) s with
      | nx e5 s5 => rw [e4] at q; exact fun σ' G' H' u t' er' => q .non G' H' t' RD.non
      | rt x5 s5 => rw [e4] at q; exact fun v G' H' u t' r' => q v G' H' t' r'
      | ex x5 e5 s5 => rw [e4] at q; exact fun cls d σ' G' H' u t' er' xr => q cls d G' H' t' xr
      | bk e5 s5 => rw [e4] at q; exact q.elim
      | ct e5 s5 => rw [e4] at q; exact q.elim
      | stk => rw [e4] at q; exact q.elim
    | true =>
      rw [b] at q
      have ul : ∀ {G' H' : Hp} {s' : Sg}, Stp X G1 H s G' H' s' → Stp X G H s (Ev.unlend G G') H' s' := fun t' => t.unlend g1 m1 t'
      cases e4 : evSs c fn.body (envOf fn xs) s with
      | nx e5 s5 => rw [e4] at q; exact fun σ' G' H' u t' er' => q .non _ H' (ul t') RD.non
      | rt x5 s5 =>
        rw [e4] at q
        intro v G' H' u t' r'
        have q : Wp (lift (Ev.lent true x5) s5) _ _ := q
        obtain ⟨z, e6, q⟩ := q.lift
        rcases lent_ok e6 with ⟨l, rfl, rfl, hf⟩ | ⟨rfl, hf⟩
        · refine q v _ H' (ul t') ?_
          obtain ⟨a, xs, ds, k1, k2, k3, k4, k5, k6, k7, k8⟩ := r'
          cases k2
          have ga : G a = none := by
            cases z : G a with
            | none => rfl
            | some o => rw [(g1.trans t'.g) _ _ z] at k4; cases k4
          exact ⟨a, xs, _, k1, rfl, k3, by unfold Ev.unlend; rw [ga]; simp only [k4], k5, k6.unlend (g1.trans t'.g) hf, k7, k8⟩
        · refine q v _ H' (ul t') ?_
          have rd := r'.flat (fun l z => by rw [z] at hf; cases hf)
          exact rd.unlend (g1.trans t'.g) hf
      | ex x5 e5 s5 => rw [e4] at q; exact fun cls d σ' G' H' u t' er' xr => q cls d _ H' (ul t') xr
      | bk e5 s5 => rw [e4] at q; exact q.elim
      | ct e5 s5 => rw [e4] at q; exact q.elim
      | stk => rw [e4] at q; exact q.elim
  · exact q.elim
end Ev
set_option Elab.async false
set_option linter.all false
set_option maxRecDepth 100000
set_option maxHeartbeats 4000000
namespace Ev
open PySem PySem.Spec PyProof.Rows L2
/-! ### what the written part must say of own classes of exceptions -/
def bodyI : List Stmt → Bool
  | [.Expr (.Call (.Attribute (.Call (.Name su _) [] [] _) ini p2) [.Name y1 _] [] p4) _, .Assign [.Attribute (.Name x _) f _] (.Name y2 _) _] =>
    (eqS su "super" && (eqS ini "__init__" && (p2.endLine == p4.line))) && ((eqS y1 "reason" && eqS x "self") && (eqS f "reason" && eqS y2 "reason"))
  | _ => false
theorem bodyI_ok {b : List Stmt} (h : bodyI b = true) : ∃ p0 p1 p2 p3 p4 p5 p6 p7 p8 p9, b = iBody "reason" "self" "reason" p0 p1 p2 p3 p4 p5 p6 p7 p8 p9 ∧ (p2.endLine == p4.line) = true := by
  unfold bodyI at h
  split at h
  · obtain ⟨h1, h2⟩ := ba2 h
    obtain ⟨a1, a2, a3⟩ := ba3 h1
    obtain ⟨b1, b2⟩ := ba2 h2
    obtain ⟨b1, b3⟩ := ba2 b1
    obtain ⟨b2, b4⟩ := ba2 b2
    rw [eqS_ok a1, eqS_ok a2, eqS_ok b1, eqS_ok b3, eqS_ok b2, eqS_ok b4]
    exact ⟨_, _, _, _, _, _, _, _, _, _, rfl, a3⟩
  · cases h
def parI : Arguments → Bool
  | ⟨[], [⟨x, none, _⟩, ⟨y, none, _⟩], none, [], [], none, []⟩ => eqS x "self" && eqS y "reason"
  | _ => false
theorem parI_ok {p : Arguments} (h : parI p = true) : ∃ q1 q2, p = ⟨[], [⟨"self", none, q1⟩, ⟨"reason", none, q2⟩], none, [], [], none, []⟩ := by
  unfold parI at h
  split at h
  · obtain ⟨h1, h2⟩ := ba2 h
    rw [eqS_ok h1, eqS_ok h2]
    exact ⟨_, _, rfl⟩
  · cases h
def frB (sc : Scope) (x : Str) : Bool := match sc.names.lookup x with
  | some .free => true
  | _ => false
theorem frB_ok {sc : Scope} {x : Str} (h : frB sc x = true) : sc.names.lookup x = some .free := by
  unfold frB at h
  split at h
  · assumption
  · cases h
theorem glB_ok' {sc : Scope} {x : Str} (h : glB sc x = true) : sc.names.lookup x = some .globalImplicit := by
  unfold glB at h
  split at h
  · assumption
  · cases h
def scI (sc : Scope) : Bool := (funB sc && (!sc.isCoroutine && !sc.isGenerator)) && ((lclB sc "self" && (lclB sc "reason" && glB sc "super")) && (frB sc "__class__" && sc.names.all fun z => match z.2 with
  | .cell => false
  | .free => eqS z.1 "__class__"
  | _ => true))
def fdI (K : PySem.W.Frag) (C fI : Addr) (file : Str) : Bool := match K.lookup fI with
  | some ⟨_, _, .func ⟨_, qual, params, .stmts body, sc, gl, [(n, cc)], .none, _, _, _, _, .ref cda, _, bl⟩, _⟩ =>
    ((parI params && (bodyI body && scI sc)) && (decide (gl = mainGlobals) && (decide (bl = builtinsNs) && PySem.W.codeIn K (.ref cda) qual))) && ((eqS n "__class__" && (match K.lookup cc with
      | some ⟨_, _, .cell (some (.ref E)), _⟩ => decide (E = C)
      | _ => false)) && (match K.lookup cda with
      | some ⟨_, _, .fields vs, _⟩ => (match (vs[2]? : Option Value) with
        | some (Value.str f _) => eqS f file
        | _ => false)
      | _ => false))
  | _ => false
def clI (K : PySem.W.Frag) (C : Addr) : Bool := match K.lookup C with
  | some ⟨.type t, _, .cls cd, sl⟩ => decide (t = "type") && (match cd.mro, sl.toList with
    | .ref E :: bm, [_, _, _, _, some (.builtin n), _] => (decide (E = C) && decide (n = "ValueError.__new__")) && (!cd.hasDel && (cd.hasDict && PySem.HandSPX.refsVE bm))
    | _, _ => false)
  | _ => false
def oxB (K : PySem.W.Frag) (file : Str) (C : Addr) : Bool := (clI K C && (He.eqO (PySem.W.findIn K (.ref C) "__setattr__") (some (some (.builtin "object.__setattr__"))) && (decide (PySem.W.subIn K (.ref C) (.type "BaseException") = some true) && (decide (PySem.W.typeIn K (.ref C) = some (.type "type")) && PySem.W.keepIn K (.ref C)))))
  && ((xfB K C && (He.eqO (PySem.W.findIn K (.ref C) "reason") (some none) && He.eqO (PySem.W.nsIn K cStatics "thirdparty.any") (some none))) && ((He.eqO (PySem.W.ks_superIn K C C "__init__") (some (some (.builtin "ValueError.__init__"))) && (decide (PySem.W.subIn K (.ref C) (.type "ValueError") = some true) && decide (PySem.W.mroIn K C (.ref C) = some true)))
  && (match PySem.W.findIn K (.ref C) "__init__" with
    | some (some (.ref fI)) => decide (PySem.W.typeIn K (.ref fI) = some (.type "function")) && fdI K C fI file
    | _ => false)))
theorem clI_ok {K : PySem.W.Frag} {C : Addr} (h : clI K C = true) : ∃ nm q N bs bm sn sub ab col dd k0 k1 k2 k3 k5, K.lookup C = some (excClassObj nm q C N bs bm true sn sub ab col dd k0 k1 k2 k3 k5 "ValueError.__new__") ∧ PySem.HandSPX.refsVE bm = true := by
  unfold clI at h
  split at h
  · rename_i t dd cd sl ho
    obtain ⟨h1, h⟩ := ba2 h
    split at h
    · rename_i E bm k0 k1 k2 k3 n k5 hm hs
      obtain ⟨h2, h3⟩ := ba2 h
      obtain ⟨h2, h4⟩ := ba2 h2
      obtain ⟨h5, h6, h7⟩ := ba3 h3
      have h1 := of_decide_eq_true h1
      have h2 := of_decide_eq_true h2
      have h4 := of_decide_eq_true h4
      subst h1 h2 h4
      obtain ⟨nm, bs, mro, ns, qn, hd, sn, sub, ab, col, del⟩ := cd
      dsimp only at hm h5 h6
      subst hm h6
      have h5 : del = false := by simpa using h5
      subst h5
      have hsl : sl = #[k0, k1, k2, k3, some (.builtin "ValueError.__new__"), k5] := by
        obtain ⟨l⟩ := sl
        simp only at hs
        rw [hs]
      subst hsl
      exact ⟨nm, qn, ns, bs, bm, sn, sub, ab, col, dd, k0, k1, k2, k3, k5, ho, h7⟩
    · cases h
  · cases h
theorem oxB_ok {P : Program} {w : World} {K : PySem.W.Frag} {mg : Str → Option Value} {base : Heap} {file : Str} {C : Addr} (h : oxB K file C = true) (hfile : ((P.main.file : Str) == file) = true) (htop : (P.main.scope.names.lookup ("super" : Str)).isSome = false) (hmg : mg "super" = none) : OxC P w K mg base C := by
  obtain ⟨h1, h2⟩ := ba2 h
  obtain ⟨a1, a2, a3⟩ := ba3 h1
  obtain ⟨a3, a4, a5⟩ := ba3 a3
  obtain ⟨h2, h3⟩ := ba2 h2
  obtain ⟨b1, b2, b3⟩ := ba3 h2
  obtain ⟨h3, h4⟩ := ba2 h3
  obtain ⟨c1, c2, c3⟩ := ba3 h3
  have T : OexC K C := ⟨clI_ok a1, He.eqO_ok a2, of_decide_eq_true a3, of_decide_eq_true a4, a5⟩
  refine ⟨T, xfB_ok b1, He.eqO_ok b2, ?_⟩
  split at h4
  · rename_i fI hI
    obtain ⟨d1, d2⟩ := ba2 h4
    unfold fdI at d2
    split at d2
    · rename_i oc od nm qual params body sc gl n cc kV doc pm an cda ct bl osl lk
      obtain ⟨e1, e2⟩ := ba2 d2
      obtain ⟨e1, e3⟩ := ba2 e1
      obtain ⟨f1, f2, f3⟩ := ba3 e1
      obtain ⟨g1, g2, g3⟩ := ba3 e3
      obtain ⟨e2, e4⟩ := ba2 e2
      obtain ⟨e2, e5⟩ := ba2 e2
      obtain ⟨q1, q2, rfl⟩ := parI_ok f1
      obtain ⟨p0, p1, p2, p3, p4, p5, p6, p7, p8, p9, rfl, hline⟩ := bodyI_ok f2
      have g1 := of_decide_eq_true g1
      have g2 := of_decide_eq_true g2
      subst g1 g2
      have e2 := eqS_ok e2
      subst e2
      split at e5
      · rename_i cl cld E csl hcc
        have e5 := of_decide_eq_true e5
        subst e5
        split at e4
        · rename_i ccl cdd vs ccs hcode
          split at e4
          · rename_i f tf hvs
            have e4 := eqS_ok e4
            subst e4
            obtain ⟨s1, s2⟩ := ba2 f3
            obtain ⟨s1, s3, s4⟩ := ba3 s1
            obtain ⟨s2, s5⟩ := ba2 s2
            obtain ⟨t1, t2, t3⟩ := ba3 s2
            obtain ⟨s5, s6⟩ := ba2 s5
            have all := List.all_eq_true.mp s6
            refine ⟨fI, _, hI, of_decide_eq_true d1, fn_init T lk g3 (funB_ok s1) (by simpa using s3) (by simpa using s4) (fun z hz q => ?_) (lclB_ok t1) (lclB_ok t2) (by decide) (glB_ok' t3) (frB_ok s5) (fun z hz => ?_) rfl rfl hcode hvs hfile hcc htop (He.eqO_ok b3) (He.eqO_ok c1) (of_decide_eq_true c2) (of_decide_eq_true c3) hmg (He.eqO_ok b2) (by decide) (by decide) hline, ?_⟩
            · have := all z hz
              rw [q] at this
              cases this
            · exact eqS_ok (all _ (PySem.mem_of_lookup hz))
            · exact Binds.all fun us hl => match us, hl with
                | [_, _], _ => rfl
          · cases e4
        · cases e4
      · cases e5
    · cases d2
  · cases h4
def exB (K : PySem.W.Frag) (C : Addr) : Bool := (He.eqO (PySem.W.findIn K (.ref C) "__getattribute__") (some (some (.builtin "BaseException.__getattribute__"))) && (He.eqO (PySem.W.findIn K (.ref C) "__getattr__") (some none) && (decide (PySem.W.subIn K (.ref C) (.type "BaseException") = some true) && PySem.W.hasDictIn K C)))
  && ((He.eqO (PySem.W.findIn K (.ref C) "__class__") (some (some (.builtin "object.__class__"))) && He.eqO (PySem.W.specialIn K (.builtin "object.__class__") "__get__") (some (some (.builtin "getset_descriptor.__get__")))) && (decide (PySem.W.takesIn K (.builtin "object.__class__") = some true) && decide (PySem.W.mroIn K C (.type "object") = some true)))
theorem exB_ok {K : PySem.W.Frag} {C : Addr} (h : exB K C = true) : ExcC K C := by
  obtain ⟨h1, h2⟩ := ba2 h
  obtain ⟨a1, a2, a3⟩ := ba3 h1
  obtain ⟨a3, a4⟩ := ba2 a3
  obtain ⟨b1, b2⟩ := ba2 h2
  obtain ⟨b1, b3⟩ := ba2 b1
  obtain ⟨b2, b4⟩ := ba2 b2
  exact ⟨He.eqO_ok a1, He.eqO_ok a2, of_decide_eq_true a3, a4, He.eqO_ok b1, He.eqO_ok b3, of_decide_eq_true b2, of_decide_eq_true b4⟩
end Ev
set_option Elab.async false
set_option linter.all false
set_option maxRecDepth 100000
set_option maxHeartbeats 4000000
namespace Ev
open PySem PySem.Spec PyProof.Rows L2
/-! ### the module's data -/
mutual
/-- the value stands for the datum, in the written part -/
def dB (K : PySem.W.Frag) : D → Value → Bool
  | .non, .none => true
  | .bl b, .bool c => b == c
  | .int i, .int j _ => decide (i = j)
  | .str x, .str y _ => decide (x = y) && PyData.canLay0 (.str x)
  | .tup ds, .ref a => (match K.lookup a with
    | some ⟨.type c, _, .seq its _, _⟩ => decide (c = "tuple") && (decide (its.size ≤ sizeLine) && dBs K ds its.toList)
    | _ => false)
  | _, _ => false
def dBs (K : PySem.W.Frag) : List D → List Value → Bool
  | [], [] => true
  | d :: ds, u :: us => dB K d u && dBs K ds us
  | _, _ => false
end
section
variable {K : PySem.W.Frag} {ad : Option Addr}
mutual
theorem dB_ok : ∀ {d : D} {u : Value}, dB K d u = true → ∃ v, RelV v u ∧ ∀ G, RD K ad G v d
  | .non, u, h => by
    cases u with
    | none => exact ⟨.non, rfl, fun _ => .non⟩
    | _ => simp [dB] at h
  | .bl b, u, h => by
    cases u with
    | bool c =>
      simp only [dB, beq_iff_eq] at h
      subst h; exact ⟨.bl b, rfl, fun _ => .bl b⟩
    | _ => simp [dB] at h
  | .int i, u, h => by
    cases u with
    | int j t =>
      simp only [dB, decide_eq_true_eq] at h
      subst h; exact ⟨.int i, ⟨_, rfl⟩, fun _ => .int i⟩
    | _ => simp [dB] at h
  | .str x, u, h => by
    cases u with
    | str y t =>
      simp only [dB, Bool.and_eq_true, decide_eq_true_eq] at h
      obtain ⟨rfl, h⟩ := h
      exact ⟨.str x, ⟨_, rfl⟩, fun _ => .str x h⟩
    | _ => simp [dB] at h
  | .tup ds, u, h => by
    cases u with
    | ref a =>
      unfold dB at h
      split at h
      · rename_i c od its n osl q
        obtain ⟨h1, h2, h3⟩ := ba3 h
        obtain ⟨vs, h4, h5⟩ := dBs_ok (ds := ds) h3
        exact ⟨.ref a, rfl, fun G => .tup (.inr ⟨_, its, n, q, congrArg Value.type (of_decide_eq_true h1), rfl, of_decide_eq_true h2, h4⟩) (h5 G)⟩
      · cases h
    | _ => simp [dB] at h
  | .lst _, u, h => by cases u <;> simp [dB] at h
  | .scr _, u, h => by cases u <;> simp [dB] at h
  | .drw, u, h => by cases u <;> simp [dB] at h
theorem dBs_ok : ∀ {ds : List D} {us : List Value}, dBs K ds us = true → ∃ vs, Vals vs us ∧ ∀ G, RDs K ad G vs ds
  | [], [], _ => ⟨[], .nil, fun _ => .nil⟩
  | [], _ :: _, h => by simp [dBs] at h
  | _ :: _, [], h => by simp [dBs] at h
  | d :: ds, u :: us, h => by
    obtain ⟨h1, h2⟩ := ba2 (show (dB K d u && dBs K ds us) = true from by simpa [dBs] using h)
    obtain ⟨v, h3, h4⟩ := dB_ok h1
    obtain ⟨vs, h5, h6⟩ := dBs_ok h2
    exact ⟨v :: vs, .cons h3 h5, fun G => .cons (h4 G) (h6 G)⟩
end
end
def cstB (K : PySem.W.Frag) (p : Str × D) : Bool := match PySem.W.nsIn K mainGlobals p.1 with
  | some (some u) => dB K p.2 u
  | _ => false
theorem cstB_ok {K : PySem.W.Frag} {h : Heap} {mg : Str → Option Value} (X : K.In h) (G : h.Ns mainGlobals mg) {p : Str × D} (c : cstB K p = true) : ∃ u, mg p.1 = some u ∧ dB K p.2 u = true := by
  unfold cstB at c
  split at c
  · rename_i u q
    exact ⟨u, PySem.W.mg_of X G q, c⟩
  · cases c
/-! ### the Hook -/
abbrev AlX : Type := Bool × (Bool × List He.FnW)
/-- what is asked of the classes of exceptions: those with a reason, the text's file, all of them (if isinstance is asked of caught ones) -/
structure Xs where
  ow : List Str
  file : Str
  kx : List Str
  sb : List (Nat × Nat)
def Xs.none : Xs := ⟨[], Str.empty, [], []⟩
def kitsB (K : PySem.W.Frag) (x : Xs) : Bool := (List.range x.kx.length).all fun i => (List.range x.kx.length).all fun j => decide (PySem.W.kitOne K (.ref (He.ga K (x.kx.getD i Str.empty))) (.ref (He.ga K (x.kx.getD j Str.empty))) = some (x.sb.contains (i, j)))
def xsB (K : PySem.W.Frag) (x : Xs) : Bool := (x.ow.all fun y => oxB K x.file (He.ga K y)) && ((x.kx.all fun y => exB K (He.ga K y)) && kitsB K x)
def obsX (fa : List He.Fa) (fn : List He.DefD) (cs : List (Str × D)) (xs : Xs) (K : PySem.W.Frag) : AlX := (cs.all (cstB K) && xsB K xs, He.obsD fa fn K)
def SaysX (fa : List He.Fa) (fn : List He.DefD) (cs : List (Str × D)) (xs : Xs) (K : PySem.W.Frag) : Prop := obsX fa fn cs xs K = (true, He.valD fn)
def obsXG (n : Nat) (fa : List He.Fa) (fn : List He.DefD) (cs : List (Str × D)) (xs : Xs) (g : Addr → Option Obj) : AlX := obsX fa fn cs xs (He.frG g (He.asD g n ++ [cStatics]))
def hookX (n : Nat) (fa : List He.Fa) (fn : List He.DefD) (cs : List (Str × D)) (xs : Xs) : PySem.W.Hook where
  α := AlX
  obs := fun s => obsXG n fa fn cs xs s.heap.get?
  val := fun _ => (true, He.valD fn)
  says := fun _ h => ∃ K : PySem.W.Frag, K.In h ∧ SaysX fa fn cs xs K
  of := fun _ _ e => ⟨_, He.frG_in, e⟩
  keeps := fun _ _ _ ⟨K, hK, c⟩ k => ⟨K, PySem.W.Frag.In.keeps hK k, c⟩
theorem obsXG_eq {n : Nat} {fa : List He.Fa} {fn : List He.DefD} {cs : List (Str × D)} {xs : Xs} {g : Addr → Option Obj} {s : Shared} (h : ∀ a, g a = s.heap.get? a) : obsXG n fa fn cs xs g = (hookX n fa fn cs xs).obs s := by
  have e : g = s.heap.get? := funext h
  rw [e]; rfl
theorem SaysX.d {fa : List He.Fa} {fn : List He.DefD} {cs : List (Str × D)} {xs : Xs} {K : PySem.W.Frag} (c : SaysX fa fn cs xs K) : He.SaysD fa fn K := congrArg (fun z : AlX => z.2) c
theorem SaysX.b {fa : List He.Fa} {fn : List He.DefD} {cs : List (Str × D)} {xs : Xs} {K : PySem.W.Frag} (c : SaysX fa fn cs xs K) : (cs.all (cstB K) && xsB K xs) = true := congrArg (fun z : AlX => z.1) c
theorem SaysX.c {fa : List He.Fa} {fn : List He.DefD} {cs : List (Str × D)} {xs : Xs} {K : PySem.W.Frag} (c : SaysX fa fn cs xs K) : ∀ p ∈ cs, cstB K p = true := List.all_eq_true.mp (ba2 c.b).1
theorem SaysX.o {fa : List He.Fa} {fn : List He.DefD} {cs : List (Str × D)} {xs : Xs} {K : PySem.W.Frag} (c : SaysX fa fn cs xs K) : ∀ y ∈ xs.ow, oxB K xs.file (He.ga K y) = true := List.all_eq_true.mp (ba2 (ba2 c.b).2).1
theorem SaysX.k {fa : List He.Fa} {fn : List He.DefD} {cs : List (Str × D)} {xs : Xs} {K : PySem.W.Frag} (c : SaysX fa fn cs xs K) : (∀ y ∈ xs.kx, exB K (He.ga K y) = true) ∧ ∀ (i j : Nat) x y, xs.kx[i]? = some x → xs.kx[j]? = some y → PySem.W.kitOne K (.ref (He.ga K x)) (.ref (He.ga K y)) = some (xs.sb.contains (i, j)) := by
  obtain ⟨h1, h2⟩ := ba2 (ba2 c.b).2 |>.2 |> ba2
  refine ⟨List.all_eq_true.mp h1, fun i j x y hi hj => ?_⟩
  have li := (List.getElem?_eq_some_iff.mp hi).1
  have lj := (List.getElem?_eq_some_iff.mp hj).1
  have z := of_decide_eq_true (List.all_eq_true.mp (List.all_eq_true.mp h2 i (List.mem_range.mpr li)) j (List.mem_range.mpr lj))
  rw [List.getD_eq_getElem?_getD, List.getD_eq_getElem?_getD, hi, hj] at z
  exact z
/-! ### all defs of a text -/
structure Df where
  d : He.DefD
  N : List Str
  ps : List Str
def bodyOf (tb : Tab) (df : Df) : Option Fn := if C8.scC df.N df.ps df.d.scope && decide (df.ps.length ≤ df.N.length) then (cSs ⟨tb, df.N⟩ false 400 df.d.scope df.d.body).map fun b => ⟨df.N.length, df.ps.length, b⟩ else none
def allOf (tb : Tab) : List Df → Option (List Fn)
  | [] => some []
  | df :: r => (bodyOf tb df).bind fun a => (allOf tb r).map fun l => a :: l
theorem allOf_at {tb : Tab} : ∀ {ds : List Df} {P : List Fn} {i : Nat} {df : Df}, allOf tb ds = some P → ds[i]? = some df → ∃ fn, P[i]? = some fn ∧ bodyOf tb df = some fn
  | [], _, _, _, _, h => by simp at h
  | d :: r, P, i, df, h, k => by
    obtain ⟨a, h1, h⟩ := ob (show (bodyOf tb d).bind (fun a => (allOf tb r).map fun l => a :: l) = some P from h)
    obtain ⟨l, h2, rfl⟩ := om h
    cases i with
    | zero => cases k; exact ⟨a, rfl, h1⟩
    | succ i =>
      obtain ⟨fn, k1, k2⟩ := allOf_at (ds := r) (i := i) h2 (by simpa using k)
      exact ⟨fn, by simpa using k1, k2⟩
/-- what is known of a def's object -/
structure DfOk (K : PySem.W.Frag) (mg : Str → Option Value) (df : Df) (x : Str) : Prop where
  ex : ∃ f fd, mg x = some (.ref f) ∧ FunD K df.d.name df.d.qual df.d.params df.d.body df.d.scope [] [] f fd ∧ Binds K fd df.ps []
/-- the context of a def's body -/
theorem gd_cx {CX : CXT} {P0 : Program} {w : World} {X : Ct} {c : Cc} {tb : Tab} {mg : Str → Option Value} {base : Heap} {N ps : List Str} {qual : Str} {scope : Scope} {f : Addr} {cd : Value} {A : Around} {outer : List PySem.Env} {s : Shared} {H : Hp} {E : XK} {W : WX} {n : Nat}
    (S : FnScope N ps scope) (T : TabOk P0 w X c tb mg base n) (hr : Room n (A.deeper (envOfC qual scope s.heap.objs.size f cd))) (tk : Takes (cxOf CX P0 w X.K mg base N qual scope f cd A outer s H E) W) :
    Gd (cxOf CX P0 w X.K mg base N qual scope f cd A outer s H E) X c tb N none scope W n ∧ Fm (cxOf CX P0 w X.K mg base N qual scope f cd A outer s H E) :=
  ⟨{ hN := rfl, nd := S.nd, hsc := rfl, hK := rfl, tab := T, fn := fun _ _ => .inl rfl, u := by have := hr.un; show (A.deeper _).units + 64 < _; omega, calm := rfl, takes := tk, room := hr, pass := passes_of rfl }, ⟨rfl, rfl⟩⟩
theorem prog_ok {P0 : Program} {w : World} {X : Ct} {gl : List D} {sb : List (Nat × Nat)} {fuel : Nat} {tb : Tab} {mg : Str → Option Value} {base : Heap} {ds : List Df} {P : List Fn} (hP : allOf tb ds = some P) (hlen : ∀ (i : Nat) x np, tb.fn[i]? = some (x, np) → ∃ df, ds[i]? = some df ∧ df.ps.length = np ∧ DfOk X.K mg df x)
    (hgl : ∀ (i : Nat) x, tb.gl[i]? = some x → ∃ d v u, gl[i]? = some d ∧ mg x = some u ∧ RelV v u ∧ ∀ G, RD X.K X.ad G v d) (hfr : ∀ x ∈ tb.free, mg x = none)
    (hxc : ∀ (i : Nat) x pl, tb.xc[i]? = some (x, pl) → ∃ a, X.xc[i]? = some a ∧ mg x = some (.ref a) ∧ (pl = true → PySem.W.excIn X.K a He.veBase "ValueError.__new__" = true ∧ PySem.W.keepIn X.K (.ref a) = true ∧ PySem.W.subIn X.K (.ref a) (.type "BaseException") = some true ∧ PySem.W.typeIn X.K (.ref a) = some (.type "type")))
    (how : ∀ (i : Nat) x pl, tb.xc[i]? = some (x, pl) → x ∈ tb.ow → ∃ a, X.xc[i]? = some a ∧ mg x = some (.ref a) ∧ OxC P0 w X.K mg base a)
    (hkx : tb.kx = true → ∀ (i : Nat) a, X.xc[i]? = some a → ExcC X.K a ∧ ∀ (j : Nat) b, X.xc[j]? = some b → PySem.W.kitOne X.K (.ref a) (.ref b) = some (sb.contains (i, j)))
    (hsb : ∀ (i j : Nat) a b, X.xc[i]? = some a → X.xc[j]? = some b → PySem.W.exmOne X.K (.ref a) (.ref b) = some (sb.contains (i, j))) :
    ∀ n : Nat, TabOk P0 w X ⟨gl, sb, evC P gl sb fuel n, fuel⟩ tb mg base (n + 1) := by
  intro n
  induction n with
  | zero =>
    refine ⟨hgl, fun i x np h => ?_, hfr, hxc, how, hkx, by omega, hsb⟩
    obtain ⟨df, h1, h2, ⟨f, fd, h3, h4, h5⟩⟩ := hlen i x np h
    refine ⟨f, fd, df.ps, h3, h4.kp, h5, ⟨fun vs H Q E q => by rw [h2]; exact q.1, fun A outer s H args us vs Q E _ _ _ _ q => ?_⟩⟩
    obtain ⟨_, Hf, H0, G, s, xs, t, rs, hx, q⟩ := q
    exact q.elim
  | succ n ih =>
    refine ⟨hgl, fun i x np h => ?_, hfr, hxc, how, hkx, by omega, hsb⟩
    obtain ⟨df, h1, h2, ⟨f, fd, h3, h4, h5⟩⟩ := hlen i x np h
    obtain ⟨fn, h6, h7⟩ := allOf_at hP h1
    obtain ⟨q, h7⟩ := oi h7
    obtain ⟨q1, q2⟩ := ba2 q
    obtain ⟨b, h8, rfl⟩ := om h7
    have S := C8.fnScope_by q1
    refine ⟨f, fd, df.ps, h3, h4.kp, h5, h4.ok S (fun vs H Q E q => by rw [h2]; exact q.1) fun cdv A outer s H vs Q E hr q => ?_⟩
    obtain ⟨gd, fm⟩ := gd_cx (CX := L2.CX P0 w) (W := fun cls d _ H' => E cls d H') S ih hr (takes_of rfl rfl rfl rfl)
    refine ⟨_, (sndS (T := X) (c := ⟨gl, sb, evC P gl sb fuel n, fuel⟩) (kt := ⟨tb, df.N⟩) (k := n + 1) 400).l (hot := false) gd.toGq (fun _ => ⟨gd, fm⟩) h8, ?_⟩
    refine body_ok (fn := ⟨df.N.length, df.ps.length, b⟩) (call := (evC P gl sb fuel (n + 1)) i) rfl (of_decide_eq_true q2) (fun xs s => ?_) (by rw [← h2] at q; exact q)
    show (match P[i]? with
      | none => Out.stk
      | some fn => if xs.length = fn.np then backF (xs.any isLo) (evSs ⟨gl, sb, evC P gl sb fuel n, fuel⟩ fn.body (envOf fn xs) s) else .stk) = _
    rw [h6]
end Ev
set_option Elab.async false
set_option linter.all false
set_option maxRecDepth 100000
set_option maxHeartbeats 4000000
namespace Ev
open PySem PySem.Spec PyProof.Rows L2
/-! ### the law's own def -/
section
variable {K : PySem.W.Frag} {G : Hp} {ad : Option Addr}
mutual
theorem RD.ad : ∀ {v : V} {d : D}, RD K none G v d → RD K ad G v d
  | _, _, .non => .non
  | _, _, .bl b => .bl b
  | _, _, .int i => .int i
  | _, _, .str x h => .str x h
  | _, _, .tup h r => .tup h (RDs.ad r)
  | _, _, .lst h r => .lst h (RDs.ad r)
  | _, _, .scr h => .scr h
  | _, _, .drw h => nomatch h
theorem RDs.ad : ∀ {vs : List V} {ds : List D}, RDs K none G vs ds → RDs K ad G vs ds
  | _, _, .nil => .nil
  | _, _, .cons h r => .cons (RD.ad h) (RDs.ad r)
end
end
theorem intsD_map : ∀ ns : List Int, intsD (ns.map D.int) = some ns
  | [] => rfl
  | n :: r => by simp [intsD, intsD_map r]
def envL (m : Nat) (ns : List Int) : Env := some (false, .scr ns) :: List.replicate (m - 1) none
/-- the law at a script: its first row makes the draw, the other rows say True -/
def LawR (c : Cc) (s0 : S) (rs : List S) (m : Nat) (ns : List Int) : Prop := ∃ (d : Drw) (s' : Sg), evS c s0 (envL m ns) none = .nx ((envL m ns).set 1 (some (true, .lst [.lst (d.c.map .int), .int d.p, .int d.r, .int d.s]))) none ∧
  evSs c rs ((envL m ns).set 1 (some (false, .drw))) (some d) = .rt (.sh, .bl true) s'
def spL (K : PySem.W.Frag) : Sp := fun vs H Q _ => ∃ (a : Addr) (ns : List Int), vs = [.ref a] ∧ ns.length ≤ 63 ∧ SqL K H a (ns.map V.int) ∧ ∀ H', Q (.bl true) H'
theorem PSs.ex2 {α β : Type} {X : Cx} {st : List Stmt} {t : α → β → TS} (h : ∀ a b, PSs X st (t a b)) : PSs X st (fun D σ H => ∃ a b, t a b D σ H) := ⟨fun pins s σ H D I ⟨a, b, q⟩ => (h a b).run pins s σ H D I q⟩
theorem envL_at {m : Nat} {ns : List Int} {i : Nat} {b : Bool} {d : D} (h : (envL m ns)[i]? = some (some (b, d))) : i = 0 ∧ b = false ∧ d = .scr ns := by
  unfold envL at h
  cases i with
  | zero => cases h; exact ⟨rfl, rfl, rfl⟩
  | succ i =>
    rw [List.getElem?_cons_succ, List.getElem?_replicate] at h
    split at h <;> cases h
theorem law_turn {K : PySem.W.Frag} {xc : List Addr} {H G' H' : Hp} {σ' : L2.St} {m : Nat} {ns : List Int} {d : Drw} (hm : 2 ≤ m) (t : Stp ⟨K, none, 0, xc⟩ H H none G' H' none) (er : ER ⟨K, none, 0, xc⟩ H G' H' ((envL m ns).set 1 (some (true, .lst [.lst (d.c.map .int), .int d.p, .int d.r, .int d.s]))) σ') :
    ∃ (a cd : Addr), Stp ⟨K, some a, cd, xc⟩ H H none G' H' (some d) ∧ ER ⟨K, some a, cd, xc⟩ H G' H' ((envL m ns).set 1 (some (false, .drw))) σ' := by
  have lm : (envL m ns).length = m := by unfold envL; rw [List.length_cons, List.length_replicate]; omega
  obtain ⟨a, xs, ds, e1, e2, e3, e4, e5, e6, e7⟩ := er.ow 1 _ (List.getElem?_set_self (by rw [lm]; omega))
  cases e2
  cases e6 with
  | cons r0 r =>
    cases r with
    | cons r1 r =>
      cases r with
      | cons r2 r =>
        cases r with
        | cons r3 r =>
          cases r
          cases r1
          cases r2
          cases r3
          cases r0 with
          | lst hc rc =>
            rename_i cd ys
            have ey := rc.ints (intsD_map d.c)
            subst ey
            refine ⟨a, cd, ⟨t.g, fun b o k _ => t.h b o k (fun z => nomatch z), t.n, t.f, t.s, ⟨e4, e3, hc⟩⟩, ?_, fun i z h => ?_, fun i z h => ?_, fun i j z z' b h => ?_⟩
            · rw [er.len, List.length_set, List.length_set]
            · rcases set_own h with ⟨h1, h2, _⟩ | ⟨h1, h2⟩
              · subst h1
                cases h2
                exact ⟨.ref a, e1, .drw rfl⟩
              · obtain ⟨v, k1, k2⟩ := er.sh i z (by rw [List.getElem?_set_ne h1]; exact h2)
                exact ⟨v, k1, RD.ad k2⟩
            · rcases set_own h with ⟨h1, h2, _⟩ | ⟨h1, h2⟩
              · cases h2
              · exact nomatch (envL_at h2).2.1
            · rcases set_own h with ⟨h1, h2, _⟩ | ⟨h1, h2⟩
              · cases h2
              · exact nomatch (envL_at h2).2.1
theorem law_ok {P0 : Program} {w : World} {K : PySem.W.Frag} {xc : List Addr} {c : Cc} {tb : Tab} {mg : Str → Option Value} {base : Heap} {n : Nat} {df : Df} {f : Addr} {fd : FuncData} {s0 : S} {rs : List S} (hps : df.ps = (["script"] : List Str))
    (T : ∀ ad cd, TabOk P0 w ⟨K, ad, cd, xc⟩ c tb mg base n) (F : FunD K df.d.name df.d.qual df.d.params df.d.body df.d.scope [] [] f fd) (hb : bodyOf tb df = some ⟨df.N.length, 1, s0 :: rs⟩) (hm : 2 ≤ df.N.length) (hl : ∀ ns : List Int, ns.length ≤ 63 → LawR c s0 rs df.N.length ns) :
    FnOk P0 w K mg base CX0 (n + 1) f fd (["script"] : List Str) (spL K) := by
  obtain ⟨q, h7⟩ := oi hb
  obtain ⟨q1, q2⟩ := ba2 q
  obtain ⟨b, h8, h9⟩ := om h7
  have S := C8.fnScope_by q1
  rw [hps] at S
  have h9 : b = s0 :: rs := by injection h9
  subst h9
  refine F.ok S (fun vs H Q E q => by obtain ⟨a, ns, rfl, _⟩ := q; rfl) fun cdv A outer s H vs Q E hr q => ?_
  obtain ⟨a, ns, rfl, hns, hq, hQ⟩ := q
  have tk : Takes (cxOf CX0 P0 w K mg base df.N df.d.qual df.d.scope f cdv A outer s H E) WF := takes_none5
  have gd := fun ad cd => gd_cx (CX := CX0) (X := ⟨K, ad, cd, xc⟩) (W := WF) (E := E) (s := s) (H := H) (outer := outer) (f := f) S (T ad cd) hr tk
  have Z := fun ad cd => sndS (T := ⟨K, ad, cd, xc⟩) (c := c) (kt := ⟨tb, df.N⟩) (k := n) 399
  rw [cSs.eq_def] at h8
  cases hbd : df.d.body with
  | nil => rw [hbd] at h8; cases h8
  | cons st rest =>
    rw [hbd] at h8
    obtain ⟨x0, k1, h8⟩ := ob h8
    obtain ⟨x1, k2, h8⟩ := om h8
    cases h8
    refine ⟨_, pss_cons ((Z none 0).s (hot := false) (gd none 0).1.toGq (fun _ => gd none 0) k1) (PSs.ex2 fun ad cd => (Z (some ad) cd).l (hot := false) (gd (some ad) cd).1.toGq (fun _ => gd (some ad) cd) k2), ?_⟩
    obtain ⟨d, s', e1, e2⟩ := hl ns hns
    have t0 : Stp ⟨K, none, 0, xc⟩ H H none H H none := .refl (Sub.refl _) trivial
    refine ⟨H, H, none, H, none, envL df.N.length ns, t0, ?_, ?_⟩
    · have := ER.start (X := ⟨K, none, 0, xc⟩) (H := H) (G := H) (N := df.N) (vs := [.ref a]) (xs := [(.sh, .scr ns)]) (fn := ⟨df.N.length, 1, []⟩) rfl rfl (by show 1 ≤ _; omega) (.cons (.scr hq) .nil)
      exact this
    · rw [e1]
      intro σ' G' H' sb t er
      obtain ⟨a2, cd, t2, er2⟩ := law_turn hm t er
      refine ⟨a2, cd, H, H, none, G', some d, _, t2, er2, ?_⟩
      rw [e2]
      intro v G2 H2 _ _ r
      cases r
      exact hQ H2
end Ev
set_option Elab.async false
set_option linter.all false
set_option maxRecDepth 100000
set_option maxHeartbeats 4000000
namespace Ev
open PySem PySem.Spec PyProof.Rows L2
/-! ### the tables behind the head -/
def pairsOf (xc : List (Str × Bool)) (sb : List (Nat × Nat)) : List He.Fa := (List.range xc.length).flatMap fun i => (List.range xc.length).map fun j => .exm ((xc.getD i (Str.empty, false)).1) ((xc.getD j (Str.empty, false)).1) (sb.contains (i, j))
/-- what is asked of the written part -/
def faOf (tb : Tab) (sb : List (Nat × Nat)) (law : Str) : List He.Fa := .glo law :: ((tb.fn.map fun p => .glo p.1) ++ (tb.free.map .free ++ ((tb.xc.map fun p => .glo p.1) ++ (((tb.xc.filter fun p => p.2).map fun p => .exc p.1) ++ pairsOf tb.xc sb))))
theorem SaysX.fact {fa : List He.Fa} {fn : List He.DefD} {cs : List (Str × D)} {xs : Xs} {K : PySem.W.Frag} (c : SaysX fa fn cs xs K) {f : He.Fa} (h : f ∈ fa) : f.ok K = true := by
  obtain ⟨i, hi, e⟩ := List.getElem_of_mem h
  exact c.d.fact i (by rw [List.getElem?_eq_getElem hi, e])
/-- how the arguments of the defs bind -/
def Bd (df : Df) : Prop := ∀ (kV doc pm : Value) (an : Option Addr) (cdv ct : Value) (us : List Value), us.length = df.ps.length → bindArgs (PySem.W.fnOf df.d.name df.d.qual df.d.params df.d.body df.d.scope .none kV doc pm an cdv ct) ⟨us, []⟩ = pure (df.ps.zip us)
def Bds : List Df → Prop
  | [] => True
  | df :: r => Bd df ∧ Bds r
theorem Bds.at_ : ∀ {ds : List Df} {i : Nat} {df : Df}, Bds ds → ds[i]? = some df → Bd df
  | [], _, _, _, h => by simp at h
  | d :: r, 0, _, h, k => by cases k; exact h.1
  | d :: r, i + 1, _, h, k => Bds.at_ (ds := r) (i := i) h.2 (by simpa using k)
def plainDf (df : Df) : Bool := df.d.dfl.isEmpty && (df.d.kwd.isEmpty && df.d.at_.2.isNone)
theorem plain_d {K : PySem.W.Frag} {df : Df} (h : plainDf df = true) : df.d.dvs K = [] ∧ df.d.kws K = [] ∧ He.fAd K df.d.at_ = He.ga K df.d.at_.1 := by
  obtain ⟨h1, h2, h3⟩ := ba3 h
  obtain ⟨⟨⟨x, m⟩, nm, q, pr, bd, sc, dfl, kwd⟩, N, ps⟩ := df
  cases dfl with
  | nil => cases kwd with
    | nil => cases m with
      | none => exact ⟨rfl, rfl, rfl⟩
      | some _ => cases h3
    | cons _ _ => cases h2
  | cons _ _ => cases h1
theorem head_tab {P0 : Program} {w : World} {K : PySem.W.Frag} {h : Heap} {mg : Str → Option Value} {tb : Tab} {sb : List (Nat × Nat)} {law : Str} {cs : List (Str × D)} {xs : Xs} {ds : List Df} {dfL : Df} {P : List Fn} {s0 : S} {rs : List S} {fuel n : Nat} {f : Addr}
    (X : K.In h) (G : h.Ns mainGlobals mg) (c : SaysX (faOf tb sb law) (ds.map (fun df => df.d) ++ [dfL.d]) cs xs K) (hmg : mg law = some (.ref f))
    (htb : tb.fn = ds.map fun df => (df.d.at_.1, df.ps.length)) (hgl : tb.gl = cs.map fun p => p.1) (hpl : (dfL :: ds).all plainDf = true) (hbd : Bds ds) (hbL : Bd dfL) (hps : dfL.ps = (["script"] : List Str)) (hat : dfL.d.at_.1 = law)
    (hP : allOf tb ds = some P) (hL : bodyOf tb dfL = some ⟨dfL.N.length, 1, s0 :: rs⟩) (hm : 2 ≤ dfL.N.length)
    (how : xs.ow = tb.ow) (hkx : xs.kx = (if tb.kx then tb.xc.map fun p => p.1 else [])) (hxb : xs.sb = sb) (hfile : tb.ow = [] ∨ (((P0.main.file : Str) == xs.file) = true ∧ (P0.main.scope.names.lookup ("super" : Str)).isSome = false ∧ hasS tb.free "super" = true))
    (hl : ∀ ns : List Int, ns.length ≤ 63 → LawR ⟨cs.map fun p => p.2, sb, evC P (cs.map fun p => p.2) sb fuel n, fuel⟩ s0 rs dfL.N.length ns) :
    ∃ fd : FuncData, (∀ (s : Shared) (v : Value), BindsTo s fd ⟨[v], []⟩ [("script", v)]) ∧ ∀ base : Heap, K.In base → base.Ns mainGlobals mg → FnOk P0 w K mg base CX0 (n + 2) f fd (["script"] : List Str) (spL K) := by
  rw [List.all_cons] at hpl
  obtain ⟨pl, hpl⟩ := ba2 hpl
  have glo : ∀ x, (He.Fa.glo x) ∈ faOf tb sb law → mg x = some (.ref (He.ga K x)) := fun x hx => He.glo_ok X G (c.fact hx)
  have gL : mg law = some (.ref (He.ga K law)) := glo law (List.mem_cons_self ..)
  have ef : f = He.ga K law := by rw [hmg] at gL; cases gL; rfl
  obtain ⟨pL1, pL2, pL3⟩ := plain_d (K := K) pl
  obtain ⟨fd, F⟩ := c.d.def_ ds.length (d := dfL.d) (by rw [List.getElem?_append_right (by simp)]; simp)
  rw [pL1, pL2, pL3, hat, ← ef] at F
  have bL := FunD.bindsA F (ps := dfL.ps) hbL
  refine ⟨fd, fun s v => by have := bL s [v] (by rw [hps]; rfl); rw [hps] at this; exact this, fun base _ _ => ?_⟩
  refine law_ok (xc := tb.xc.map fun p => He.ga K p.1) hps (fun ad cd => prog_ok (P0 := P0) (w := w) hP (fun i x np hi => ?_) (fun i x hi => ?_) (fun x hx => ?_) (fun i x b hi => ?_) (fun i x b hi ho => ?_) (fun hk i a hi => ?_) (fun i j a b hi hj => ?_) n) F hL hm hl
  · rw [htb, List.getElem?_map] at hi
    obtain ⟨df, h1, h2⟩ := Option.map_eq_some_iff.mp hi
    cases h2
    have mem : df ∈ ds := List.mem_of_getElem? h1
    obtain ⟨p1, p2, p3⟩ := plain_d (K := K) (List.all_eq_true.mp hpl df mem)
    obtain ⟨fd1, F1⟩ := c.d.def_ i (d := df.d) (by
      have lt := (List.getElem?_eq_some_iff.mp h1).1
      rw [List.getElem?_append_left (by simpa using lt), List.getElem?_map, h1]; rfl)
    rw [p1, p2, p3] at F1
    refine ⟨df, h1, rfl, ⟨_, fd1, glo _ ?_, F1, F1.bindsN (hbd.at_ h1)⟩⟩
    refine List.mem_cons_of_mem _ (List.mem_append_left _ ?_)
    rw [htb, List.map_map]
    exact List.mem_map.mpr ⟨df, mem, rfl⟩
  · rw [hgl, List.getElem?_map] at hi
    obtain ⟨p, h1, h2⟩ := Option.map_eq_some_iff.mp hi
    cases h2
    obtain ⟨u, h3, h4⟩ := cstB_ok X G (c.c p (List.mem_of_getElem? h1))
    obtain ⟨v, h5, h6⟩ := dB_ok (ad := ad) h4
    exact ⟨p.2, v, u, by rw [List.getElem?_map, h1]; rfl, h3, h5, h6⟩
  · refine He.free_ok X G (c.fact (f := .free x) ?_)
    exact List.mem_cons_of_mem _ (List.mem_append_right _ (List.mem_append_left _ (List.mem_map.mpr ⟨x, hx, rfl⟩)))
  · have mem : (x, b) ∈ tb.xc := List.mem_of_getElem? hi
    refine ⟨He.ga K x, by rw [List.getElem?_map, hi]; rfl, glo x ?_, fun hb => ?_⟩
    · exact List.mem_cons_of_mem _ (List.mem_append_right _ (List.mem_append_right _ (List.mem_append_left _ (List.mem_map.mpr ⟨_, mem, rfl⟩))))
    · refine He.exc_ok (c.fact (f := .exc x) ?_)
      exact List.mem_cons_of_mem _ (List.mem_append_right _ (List.mem_append_right _ (List.mem_append_right _ (List.mem_append_left _ (List.mem_map.mpr ⟨_, List.mem_filter.mpr ⟨mem, hb⟩, rfl⟩)))))
  · have mem : (x, b) ∈ tb.xc := List.mem_of_getElem? hi
    refine ⟨He.ga K x, by rw [List.getElem?_map, hi]; rfl, glo x ?_, ?_⟩
    · exact List.mem_cons_of_mem _ (List.mem_append_right _ (List.mem_append_right _ (List.mem_append_left _ (List.mem_map.mpr ⟨_, mem, rfl⟩))))
    · rcases hfile with h0 | ⟨h1, h2, h3⟩
      · rw [h0] at ho
        cases ho
      · refine oxB_ok (c.o x (by rw [how]; exact ho)) h1 h2 (He.free_ok X G (c.fact (f := .free "super") ?_))
        exact List.mem_cons_of_mem _ (List.mem_append_right _ (List.mem_append_left _ (List.mem_map.mpr ⟨_, hasS_ok' h3, rfl⟩)))
  · rw [List.getElem?_map] at hi
    obtain ⟨p, h1, rfl⟩ := Option.map_eq_some_iff.mp hi
    obtain ⟨k1, k2⟩ := c.k
    rw [hkx, if_pos hk, hxb] at k2
    rw [hkx, if_pos hk] at k1
    refine ⟨exB_ok (k1 _ (List.mem_map.mpr ⟨p, List.mem_of_getElem? h1, rfl⟩)), fun j b hj => ?_⟩
    rw [List.getElem?_map] at hj
    obtain ⟨p', h2, rfl⟩ := Option.map_eq_some_iff.mp hj
    exact k2 i j _ _ (by rw [List.getElem?_map, h1]; rfl) (by rw [List.getElem?_map, h2]; rfl)
  · rw [List.getElem?_map] at hi hj
    obtain ⟨p, h1, rfl⟩ := Option.map_eq_some_iff.mp hi
    obtain ⟨p', h2, rfl⟩ := Option.map_eq_some_iff.mp hj
    have li := (List.getElem?_eq_some_iff.mp h1).1
    have lj := (List.getElem?_eq_some_iff.mp h2).1
    refine He.exm_ok (c.fact (f := .exm p.1 p'.1 (sb.contains (i, j))) ?_)
    refine List.mem_cons_of_mem _ (List.mem_append_right _ (List.mem_append_right _ (List.mem_append_right _ (List.mem_append_right _ ?_))))
    refine List.mem_flatMap.mpr ⟨i, List.mem_range.mpr li, List.mem_map.mpr ⟨j, List.mem_range.mpr lj, ?_⟩⟩
    rw [List.getD_eq_getElem?_getD, List.getD_eq_getElem?_getD, h1, h2]; rfl
end Ev
set_option Elab.async false
set_option linter.all false
set_option maxRecDepth 100000
set_option maxHeartbeats 4000000
namespace Ev
open PySem PySem.Spec PyProof.Rows L2
/-! ### plain facts of the evaluator -/
/-- a run that ends well -/
def Ok {α : Type} (r : Out α) (Q : α → Sg → Prop) : Prop := ∃ a s, r = .ok a s ∧ Q a s
theorem Ok.bind {α β : Type} {r : Out α} {f : α → Sg → Out β} {Q : α → Sg → Prop} {R : β → Sg → Prop} (h : Ok r Q) (k : ∀ a s, Q a s → Ok (f a s) R) : Ok (r.bind f) R := by
  obtain ⟨a, s, rfl, q⟩ := h
  exact k a s q
theorem Ok.imp {α : Type} {r : Out α} {Q R : α → Sg → Prop} (h : Ok r Q) (k : ∀ a s, Q a s → R a s) : Ok r R := by
  obtain ⟨a, s, e, q⟩ := h
  exact ⟨a, s, e, k a s q⟩
theorem bind_ok {α β : Type} {r : Out α} {f : α → Sg → Out β} {a : α} {s : Sg} (h : r = .ok a s) : r.bind f = f a s := by rw [h]; rfl
theorem sr_ok {α : Type} {r : Out α} {f : α → Sg → SR} {a : α} {s : Sg} {env : Env} (h : r = .ok a s) : r.sr env f = f a s := by rw [h]; rfl
/-- a clause that leaves the draw as it is -/
theorem lcLoop_pure {asg : D → Env → Option Env} {one : Env → Sg → Out (List D)} {env : Env} {s : Sg} (f : D → List D) : ∀ {items : List D}, (∀ d ∈ items, ∃ e1, asg d env = some e1 ∧ one e1 s = .ok (f d) s) → lcLoop asg one items env s = .ok (items.flatMap f) s
  | [], _ => rfl
  | d :: r, h => by
    obtain ⟨e1, h1, h2⟩ := h d (List.mem_cons_self ..)
    rw [lcLoop, h1]
    show (one e1 s).bind _ = _
    rw [h2]
    show (lcLoop asg one r env s).bind _ = _
    rw [lcLoop_pure f fun d hd => h d (List.mem_cons_of_mem _ hd)]
    rfl
/-- .. a clause that turns it, an item for each: I holds of the draws, R of the items and what they give -/
theorem lcLoop_one {asg : D → Env → Option Env} {one : Env → Sg → Out (List D)} {env : Env} {I : Sg → Prop} {R : D → D → Prop} : ∀ {items : List D} {s : Sg}, I s → (∀ d ∈ items, ∀ s, I s → ∃ e1, asg d env = some e1 ∧ Ok (one e1 s) fun l s' => I s' ∧ ∃ y, l = [y] ∧ R d y) →
    Ok (lcLoop asg one items env s) fun l s' => I s' ∧ l.length = items.length ∧ ∀ (i : Nat) d y, items[i]? = some d → l[i]? = some y → R d y
  | [], s, hi, _ => ⟨[], s, rfl, hi, rfl, fun i d y h => by simp at h⟩
  | d :: r, s, hi, h => by
    obtain ⟨e1, h1, l, s1, h2, hi1, y, rfl, hr⟩ := h d (List.mem_cons_self ..) s hi
    obtain ⟨l2, s2, h3, hi2, h4, h5⟩ := lcLoop_one (items := r) hi1 fun d hd => h d (List.mem_cons_of_mem _ hd)
    refine ⟨[y] ++ l2, s2, ?_, hi2, by simp [h4], fun i d' y' k1 k2 => ?_⟩
    · rw [lcLoop, h1]
      show (one e1 s).bind _ = _
      rw [h2]
      show (lcLoop asg one r env s1).bind _ = _
      rw [h3]; rfl
    · cases i with
      | zero => cases k1; cases k2; exact hr
      | succ i => exact h5 i d' y' (by simpa using k1) (by simpa using k2)
/-- a loop: I holds of the names and the draws, by the number of items walked -/
theorem forL_nx {asg : D → Env → Option Env} {body : Env → Sg → SR} {items : List D} (I : Nat → Env → Sg → Prop) {env : Env} {s : Sg} (h0 : I 0 env s)
    (hs : ∀ (i : Nat) d env s, items[i]? = some d → I i env s → ∃ e1 e2 s2, asg d env = some e1 ∧ (body e1 s = .nx e2 s2 ∨ body e1 s = .ct e2 s2) ∧ I (i + 1) e2 s2) : ∃ env' s', forL asg body items env s = .nx env' s' ∧ I items.length env' s' := by
  have go : ∀ (l : List D) (i : Nat) env s, items.drop i = l → I i env s → i + l.length = items.length → ∃ env' s', forL asg body l env s = .nx env' s' ∧ I items.length env' s' := fun l => by
    induction l with
    | nil => intro i env s _ hi hl; exact ⟨env, s, rfl, by rw [← hl]; exact hi⟩
    | cons d l ih =>
      intro i env s hd hi hl
      have hi' : items[i]? = some d := by rw [← List.head?_drop, hd]; rfl
      have hd' : items.drop (i + 1) = l := by rw [← List.tail_drop, hd]; rfl
      obtain ⟨e1, e2, s2, h1, h2, h3⟩ := hs i d env s hi' hi
      obtain ⟨env', s', h4, h5⟩ := ih (i + 1) e2 s2 hd' h3 (by rw [List.length_cons] at hl; omega)
      refine ⟨env', s', ?_, h5⟩
      rw [forL, h1]
      rcases h2 with h2 | h2 <;> (simp only [h2]; exact h4)
  exact go items 0 env s rfl h0 (by simp)
theorem nx_seq {r : SR} {f : Env → Sg → SR} {e : Env} {s : Sg} (h : r = .nx e s) : r.seq f = f e s := by rw [h]; rfl
end Ev
set_option Elab.async false
set_option linter.all false
set_option maxRecDepth 100000
set_option maxHeartbeats 4000000
namespace Ev
open PySem PySem.Spec PyProof.Rows L2
/-! ### the draw -/
def Vd : Sg → Prop
  | some d => -1 ≤ d.p
  | none => False
def takeF : Fn := ⟨3, 2, [(.ifs (.cmp .eq (.ix (.v 0) (.k (.int 2))) (.k (.int 0))) [(.set 0 (.k (.int 1)) (.op .add (.ix (.v 0) (.k (.int 1))) (.k (.int 1)))), (.ifs (.cmp .lt (.ix (.v 0) (.k (.int 1))) (.bc .len [(.ix (.v 0) (.k (.int 0)))])) [(.set 0 (.k (.int 2)) (.ix (.ix (.v 0) (.k (.int 0))) (.ix (.v 0) (.k (.int 1)))))] []), (.ifs (.cmp .eq (.ix (.v 0) (.k (.int 2))) (.k (.int 0))) [(.set 0 (.k (.int 3)) (.op .mod (.bc .int [(.op .add (.op .mul (.ix (.v 0) (.k (.int 3))) (.k (.int 48271))) (.k (.int 11)))]) (.k (.int 2147483647)))), (.set 0 (.k (.int 2)) (.ix (.v 0) (.k (.int 3))))] [])] []),
  (.asg (.nm 2) (.op .mod (.bc .int [(.ix (.v 0) (.k (.int 2)))]) (.v 1))),
  (.set 0 (.k (.int 2)) (.op .fdiv (.ix (.v 0) (.k (.int 2))) (.v 1))),
  (.ret (.v 2))]⟩
theorem wideR (i j : Int) (h1 : -(2 ^ 64) < j) (h2 : j < 2 ^ 64) : wideOk i j = true := by
  simp [wideOk]; omega
theorem atI_ok {α : Type} {l : List α} {i : Int} (h0 : 0 ≤ i) (h1 : i < l.length) : ∃ r, atI l i = some r ∧ l[i.toNat]? = some r := by
  have hi : i.toNat < l.length := by omega
  refine ⟨l[i.toNat], ?_, List.getElem?_eq_getElem hi⟩
  unfold L2.atI ixN
  rw [if_pos h0, if_pos h1]
  exact List.getElem?_eq_getElem hi
theorem atI_map {α β : Type} (f : α → β) {l : List α} {i : Int} : atI (l.map f) i = (atI l i).map f := by
  unfold L2.atI
  rw [List.length_map]
  cases ixN l.length i with
  | none => rfl
  | some j => exact List.getElem?_map
theorem take_end (c : Cc) (cs : List Int) (p r s : Int) (x : Option (Bool × D)) (m : Int) (hd : -1 ≤ p) (h0 : 0 < m) (h1 : m < 1073741824) :
    Ok (backF false (evSs c [(.asg (.nm 2) (.op .mod (.bc .int [(.ix (.v 0) (.k (.int 2)))]) (.v 1))), (.set 0 (.k (.int 2)) (.op .fdiv (.ix (.v 0) (.k (.int 2))) (.v 1))), (.ret (.v 2))] [some (false, .drw), some (false, .int m), x] (some ⟨cs, p, r, s⟩))) fun x s => Vd s ∧ ∃ r, x = (.sh, .int r) ∧ 0 ≤ r ∧ r < m := by
  have hm : m ≠ 0 := by omega
  have hn : m.natAbs < 1073741824 := by omega
  refine ⟨(.sh, .int (r.fmod m)), some ⟨cs, p, r.fdiv m, s⟩, ?_, hd, _, rfl, ?_, ?_⟩
  · simp [evSs, evS, evE, evEs, evTs, evT, Out.bind, Out.sr, lift, SR.seq, ixV, truD, cmD, opD, plainD, eqD, setS, setV, keep, bcD, dat, ixD, optS, asgV, asgVs, asgD, asgDs, backF, Ev.lent, Ev.leaves, testsD, keeps, flatD, inD, itV, itW, isLo, isSeq, itD, owned, Ev.unown, mixed, isFr, settle, oneI, slD, isiD, augV, flatAt, noEx, hm, hn]
  · rw [Int.fmod_eq_emod_of_nonneg _ (by omega)]; exact Int.emod_nonneg _ hm
  · rw [Int.fmod_eq_emod_of_nonneg _ (by omega)]; exact Int.emod_lt_of_pos _ h0
def takeI : S := (.ifs (.cmp .eq (.ix (.v 0) (.k (.int 2))) (.k (.int 0))) [(.set 0 (.k (.int 1)) (.op .add (.ix (.v 0) (.k (.int 1))) (.k (.int 1)))), (.ifs (.cmp .lt (.ix (.v 0) (.k (.int 1))) (.bc .len [(.ix (.v 0) (.k (.int 0)))])) [(.set 0 (.k (.int 2)) (.ix (.ix (.v 0) (.k (.int 0))) (.ix (.v 0) (.k (.int 1)))))] []), (.ifs (.cmp .eq (.ix (.v 0) (.k (.int 2))) (.k (.int 0))) [(.set 0 (.k (.int 3)) (.op .mod (.bc .int [(.op .add (.op .mul (.ix (.v 0) (.k (.int 3))) (.k (.int 48271))) (.k (.int 11)))]) (.k (.int 2147483647)))), (.set 0 (.k (.int 2)) (.ix (.v 0) (.k (.int 3))))] [])] [])
theorem take_head (c : Cc) (cs : List Int) (p r s : Int) (m : Int) (hd : -1 ≤ p) : ∃ p' r' s', -1 ≤ p' ∧ evS c takeI [some (false, .drw), some (false, .int m), none] (some ⟨cs, p, r, s⟩) = .nx [some (false, .drw), some (false, .int m), none] (some ⟨cs, p', r', s'⟩) := by
  unfold takeI
  have hw : wideOk s 48271 = true := wideR _ _ (by decide) (by decide)
  by_cases hr : r = 0
  · subst hr
    by_cases hp : p + 1 < (cs.length : Int)
    · obtain ⟨x, h1, _⟩ := atI_ok (l := cs) (i := p + 1) (by omega) hp
      have h2 : atI (cs.map D.int) (p + 1) = some (.int x) := by rw [atI_map, h1]; rfl
      by_cases hx : x = 0
      · subst hx
        exact ⟨p + 1, _, _, by omega, by simp [evSs, evS, evE, evEs, evTs, evT, Out.bind, Out.sr, lift, SR.seq, ixV, truD, cmD, opD, plainD, eqD, setS, setV, keep, bcD, dat, ixD, optS, asgV, asgVs, asgD, asgDs, backF, Ev.lent, Ev.leaves, testsD, keeps, flatD, inD, itV, itW, isLo, isSeq, itD, owned, Ev.unown, mixed, isFr, settle, oneI, slD, isiD, augV, flatAt, noEx, hp, h2, hw]; exact ⟨rfl, rfl⟩⟩
      · exact ⟨p + 1, x, s, by omega, by simp [evSs, evS, evE, evEs, evTs, evT, Out.bind, Out.sr, lift, SR.seq, ixV, truD, cmD, opD, plainD, eqD, setS, setV, keep, bcD, dat, ixD, optS, asgV, asgVs, asgD, asgDs, backF, Ev.lent, Ev.leaves, testsD, keeps, flatD, inD, itV, itW, isLo, isSeq, itD, owned, Ev.unown, mixed, isFr, settle, oneI, slD, isiD, augV, flatAt, noEx, hp, h2, hx]⟩
    · exact ⟨p + 1, _, _, by omega, by simp [evSs, evS, evE, evEs, evTs, evT, Out.bind, Out.sr, lift, SR.seq, ixV, truD, cmD, opD, plainD, eqD, setS, setV, keep, bcD, dat, ixD, optS, asgV, asgVs, asgD, asgDs, backF, Ev.lent, Ev.leaves, testsD, keeps, flatD, inD, itV, itW, isLo, isSeq, itD, owned, Ev.unown, mixed, isFr, settle, oneI, slD, isiD, augV, flatAt, noEx, hp, hw]; exact ⟨rfl, rfl⟩⟩
  · exact ⟨p, r, s, hd, by simp [evSs, evS, evE, evEs, evTs, evT, Out.bind, Out.sr, lift, SR.seq, ixV, truD, cmD, opD, plainD, eqD, setS, setV, keep, bcD, dat, ixD, optS, asgV, asgVs, asgD, asgDs, backF, Ev.lent, Ev.leaves, testsD, keeps, flatD, inD, itV, itW, isLo, isSeq, itD, owned, Ev.unown, mixed, isFr, settle, oneI, slD, isiD, augV, flatAt, noEx, hr]⟩
theorem take_run (c : Cc) (d : Drw) (m : Int) (hd : -1 ≤ d.p) (h0 : 0 < m) (h1 : m < 1073741824) : Ok (backF false (evSs c takeF.body (envOf takeF [(.sh, .drw), (.sh, .int m)]) (some d))) fun x s => Vd s ∧ ∃ r, x = (.sh, .int r) ∧ 0 ≤ r ∧ r < m := by
  obtain ⟨cs, p, r, s⟩ := d
  obtain ⟨p', r', s', hp', e⟩ := take_head c cs p r s m hd
  have q := take_end c cs p' r' s' none m hp' h0 h1
  have e2 : evSs c takeF.body (envOf takeF [(.sh, .drw), (.sh, .int m)]) (some ⟨cs, p, r, s⟩) = evSs c [(.asg (.nm 2) (.op .mod (.bc .int [(.ix (.v 0) (.k (.int 2)))]) (.v 1))), (.set 0 (.k (.int 2)) (.op .fdiv (.ix (.v 0) (.k (.int 2))) (.v 1))), (.ret (.v 2))] [some (false, .drw), some (false, .int m), none] (some ⟨cs, p', r', s'⟩) := by
    show (evS c takeI _ _).seq _ = _
    exact nx_seq e
  rw [e2]; exact q
/-- the draw, at a call: whatever the defs' numbers are -/
theorem take_call {P : List Fn} {gl : List D} {sb : List (Nat × Nat)} {fuel n i : Nat} (hi : P[i]? = some takeF) {s : Sg} (hs : Vd s) {m : Int} (h0 : 0 < m) (h1 : m < 1073741824) : Ok (evC P gl sb fuel (n + 1) i [(.sh, .drw), (.sh, .int m)] s) fun x s => Vd s ∧ ∃ r, x = (.sh, .int r) ∧ 0 ≤ r ∧ r < m := by
  cases s with
  | none => exact hs.elim
  | some d =>
    have q := take_run ⟨gl, sb, evC P gl sb fuel n, fuel⟩ d m hs h0 h1
    have e : evC P gl sb fuel (n + 1) i [(.sh, .drw), (.sh, .int m)] (some d) = backF false (evSs ⟨gl, sb, evC P gl sb fuel n, fuel⟩ takeF.body (envOf takeF [(.sh, .drw), (.sh, .int m)]) (some d)) := by
      rw [evC, hi]; rfl
    rw [e]; exact q
end Ev
set_option Elab.async false
set_option linter.all false
set_option maxRecDepth 100000
set_option maxHeartbeats 4000000
namespace Ev
open PySem PySem.Spec PyProof.Rows L2
def drawF : Fn := ⟨3, 1, [(.asg (.nm 1) (.k (.int 7))),
  (.lk [0] (.for_ (.nm 2) .seq [(.v 0)] [(.asg (.nm 1) (.op .mod (.bc .int [(.op .add (.op .add (.op .mul (.v 1) (.k (.int 48271))) (.op .mod (.bc .abs [(.bc .int [(.v 2)])]) (.k (.int 65521)))) (.k (.int 1)))]) (.k (.int 2147483647))))])),
  (.lk [1] (.ret (.lst [(.lc (.bc .abs [(.bc .int [(.v 2)])]) (.nm 2) .seq [(.v 0)] [] [2]), (.neg (.k (.int 1))), (.k (.int 0)), (.v 1)])))]⟩
theorem map_get {l : List Int} {i : Nat} {d : D} (h : (l.map D.int)[i]? = some d) : ∃ x, d = .int x ∧ l[i]? = some x := by
  rw [List.getElem?_map, Option.map_eq_some_iff] at h
  obtain ⟨x, h1, rfl⟩ := h
  exact ⟨x, rfl, h1⟩
/-- a comprehension of ints that leaves the draw as it is -/
theorem lc_pure {c : Cc} {elt : E} {i : Nat} {k : IK} {ies cs : List E} {own : List Nat} {env : Env} {s s1 : Sg} {xs : List VD} {items : List D} (f : D → List D) (h1 : evEs c ies env s = .ok xs s1) (h2 : itV k xs = some items)
    (h3 : ∀ d ∈ items, (testsD (evTs c cs) ((wipeE env own).set i (some (false, d))) s1).bind (fun b s1 => if b = true then (evE c elt ((wipeE env own).set i (some (false, d))) s1).bind fun x s2 => lift ((keep x).map fun d => [d]) s2 else .ok [] s1) = .ok (f d) s1) (h4 : (items.flatMap f).length ≤ sizeLine) :
    evE c (.lc elt (.nm i) k ies cs own) env s = .ok (.fr, .lst (items.flatMap f)) s1 := by
  rw [evE, h1]
  show (lift (itV k xs) s1).bind _ = _
  rw [h2]
  show (noEx _).bind _ = _
  have q := lcLoop_pure (asg := asgD (.nm i)) (one := fun e s => (testsD (evTs c cs) e s).bind fun b s1 => if b = true then (evE c elt e s1).bind fun x s2 => lift ((keep x).map fun d => [d]) s2 else .ok [] s1) (env := wipeE env own) (s := s1) f (items := items) fun d hd => ⟨_, rfl, h3 d hd⟩
  rw [q]
  show small _ _ = _
  unfold small
  rw [if_pos h4]
/-- a comprehension of which every item turns the draw -/
theorem lc_turn {c : Cc} {elt : E} {i : Nat} {k : IK} {ies : List E} {own : List Nat} {env : Env} {s s1 : Sg} {xs : List VD} {items : List D} {R : D → D → Prop} (h1 : evEs c ies env s = .ok xs s1) (hs : Vd s1) (h2 : itV k xs = some items)
    (h3 : ∀ d ∈ items, ∀ s, Vd s → Ok (evE c elt ((wipeE env own).set i (some (false, d))) s) fun x s' => Vd s' ∧ ∃ y, keep x = some y ∧ R d y) (h4 : items.length ≤ sizeLine) :
    Ok (evE c (.lc elt (.nm i) k ies [] own) env s) fun x s' => Vd s' ∧ ∃ l, x = (.fr, .lst l) ∧ l.length = items.length ∧ ∀ (i : Nat) d y, items[i]? = some d → l[i]? = some y → R d y := by
  have q := lcLoop_one (asg := asgD (.nm i)) (one := fun e s => (testsD (evTs c []) e s).bind fun b s1 => if b = true then (evE c elt e s1).bind fun x s2 => lift ((keep x).map fun d => [d]) s2 else .ok [] s1) (env := wipeE env own) (I := Vd) (R := R) (items := items) hs (fun d hd s hv => ⟨_, rfl, by
    obtain ⟨x, s2, e, hv2, y, k1, k2⟩ := h3 d hd s hv
    refine ⟨[y], s2, ?_, hv2, y, rfl, k2⟩
    show (evE c elt _ s).bind _ = _
    rw [e]
    show lift ((keep x).map fun d => [d]) s2 = _
    rw [k1]; rfl⟩)
  obtain ⟨l, s2, e, hv, hl, hr⟩ := q
  refine ⟨(.fr, .lst l), s2, ?_, hv, l, rfl, hl, hr⟩
  rw [evE, h1]
  show (lift (itV k xs) s1).bind _ = _
  rw [h2]
  show (noEx _).bind _ = _
  rw [e]
  show small _ _ = _
  unfold small
  rw [if_pos (by rw [hl]; exact h4)]
theorem absMap : ∀ ns : List Int, (ns.map D.int).flatMap (fun d => match d with | .int y => [D.int (absI y)] | _ => []) = (ns.map absI).map D.int
  | [] => rfl
  | y :: r => by
    rw [List.map_cons, List.flatMap_cons, absMap r]; rfl
theorem small63 {n : Nat} (h : n ≤ 1000) : n ≤ sizeLine := line1000 h
theorem draw_call {P : List Fn} {gl : List D} {sb : List (Nat × Nat)} {fuel n i : Nat} (hi : P[i]? = some drawF) {ns : List Int} (hn : ns.length ≤ 63) :
    ∃ d : Drw, -1 ≤ d.p ∧ evC P gl sb fuel (n + 1) i [(.sh, .scr ns)] none = .ok (.fr, .lst [.lst (d.c.map .int), .int d.p, .int d.r, .int d.s]) none := by
  have loop := forL_nx (asg := asgD (.nm 2)) (body := evSs ⟨gl, sb, evC P gl sb fuel n, fuel⟩ [(.asg (.nm 1) (.op .mod (.bc .int [(.op .add (.op .add (.op .mul (.v 1) (.k (.int 48271))) (.op .mod (.bc .abs [(.bc .int [(.v 2)])]) (.k (.int 65521)))) (.k (.int 1)))]) (.k (.int 2147483647))))]) (items := ns.map D.int)
    (fun _ env s => s = none ∧ ∃ (sd : Int) (x : Option (Bool × D)), env = [some (false, .scr ns), some (false, .int sd), x]) (env := [some (false, .scr ns), some (false, .int 7), none]) (s := none) ⟨rfl, 7, none, rfl⟩ (fun j d env s hj hI => by
      obtain ⟨rfl, sd, x, rfl⟩ := hI
      obtain ⟨y, rfl, _⟩ := map_get hj
      have hw : wideOk sd 48271 = true := wideR _ _ (by decide) (by decide)
      exact ⟨_, _, none, rfl, .inl (by simp [evSs, evS, evE, evEs, evTs, evT, Out.bind, Out.sr, lift, SR.seq, ixV, truD, cmD, opD, plainD, eqD, setS, setV, keep, bcD, dat, ixD, optS, asgV, asgVs, asgD, asgDs, backF, Ev.lent, Ev.leaves, testsD, keeps, flatD, inD, itV, itW, isLo, isSeq, itD, owned, Ev.unown, mixed, isFr, settle, oneI, slD, isiD, augV, flatAt, noEx, hw]; exact ⟨rfl, rfl⟩), rfl, _, _, rfl⟩)
  obtain ⟨env', s', e, rfl, sd, x, rfl⟩ := loop
  have e2 : evE ⟨gl, sb, evC P gl sb fuel n, fuel⟩ (.lc (.bc .abs [(.bc .int [(.v 2)])]) (.nm 2) .seq [(.v 0)] [] [2]) [some (false, .scr ns), some (false, .int sd), x] none = .ok (.fr, .lst ((ns.map D.int).flatMap fun d => match d with | .int y => [.int (absI y)] | _ => [])) none :=
    lc_pure (s1 := none) (xs := [(.sh, .scr ns)]) (items := ns.map D.int) _ rfl rfl (fun d hd => by
      obtain ⟨y, _, rfl⟩ := List.mem_map.mp hd
      simp [evSs, evS, evE, evEs, evTs, evT, Out.bind, Out.sr, lift, SR.seq, ixV, truD, cmD, opD, plainD, eqD, setS, setV, keep, bcD, dat, ixD, optS, asgV, asgVs, asgD, asgDs, backF, Ev.lent, Ev.leaves, testsD, keeps, flatD, inD, itV, itW, isLo, isSeq, itD, owned, Ev.unown, mixed, isFr, settle, oneI, slD, isiD, augV, flatAt, noEx, wipeE]) (by
      refine small63 ?_
      rw [List.flatMap_map]
      simp only [List.length_flatMap, List.length_singleton, List.map_const', List.sum_replicate_nat]
      omega)
  refine ⟨⟨ns.map absI, -1, 0, sd⟩, Int.le_refl _, ?_⟩
  rw [evC, hi]
  show backF false (evSs _ drawF.body _ _) = _
  have e3 : evSs ⟨gl, sb, evC P gl sb fuel n, fuel⟩ drawF.body (envOf drawF [(.sh, .scr ns)]) none = .rt (.fr, .lst [.lst ((ns.map absI).map .int), .int (-1), .int 0, .int sd]) none := by
    show (evS _ _ _ _).seq _ = _
    have a1 : evS ⟨gl, sb, evC P gl sb fuel n, fuel⟩ (.asg (.nm 1) (.k (.int 7))) (envOf drawF [(.sh, .scr ns)]) none = .nx [some (false, .scr ns), some (false, .int 7), none] none := by
      simp [evSs, evS, evE, evEs, evTs, evT, Out.bind, Out.sr, lift, SR.seq, ixV, truD, cmD, opD, plainD, eqD, setS, setV, keep, bcD, dat, ixD, optS, asgV, asgVs, asgD, asgDs, backF, Ev.lent, Ev.leaves, testsD, keeps, flatD, inD, itV, itW, isLo, isSeq, itD, owned, Ev.unown, mixed, isFr, settle, oneI, slD, isiD, augV, flatAt, noEx, envOf, drawF]
    rw [nx_seq a1]
    show (evS _ _ _ _).seq _ = _
    have a2 : evS ⟨gl, sb, evC P gl sb fuel n, fuel⟩ (.lk [0] (.for_ (.nm 2) .seq [(.v 0)] [(.asg (.nm 1) (.op .mod (.bc .int [(.op .add (.op .add (.op .mul (.v 1) (.k (.int 48271))) (.op .mod (.bc .abs [(.bc .int [(.v 2)])]) (.k (.int 65521)))) (.k (.int 1)))]) (.k (.int 2147483647))))])) [some (false, .scr ns), some (false, .int 7), none] none = .nx [some (false, .scr ns), some (false, .int sd), x] none := e
    rw [nx_seq a2]
    show (evS _ _ _ _).seq _ = _
    have e4 : (ns.map D.int).flatMap (fun d => match d with | .int y => [D.int (absI y)] | _ => []) = (ns.map absI).map D.int := by
      exact absMap ns
    rw [e4] at e2
    have e5 : evEs ⟨gl, sb, evC P gl sb fuel n, fuel⟩ [(.lc (.bc .abs [(.bc .int [(.v 2)])]) (.nm 2) .seq [(.v 0)] [] [2]), (.neg (.k (.int 1))), (.k (.int 0)), (.v 1)] [some (false, .scr ns), some (false, .int sd), x] none = .ok [(.fr, .lst ((ns.map absI).map .int)), (.sh, .int (-1)), (.sh, .int 0), (.sh, .int sd)] none := by
      rw [evEs, e2]
      simp [evSs, evS, evE, evEs, evTs, evT, Out.bind, Out.sr, lift, SR.seq, ixV, truD, cmD, opD, plainD, eqD, setS, setV, keep, bcD, dat, ixD, optS, asgV, asgVs, asgD, asgDs, backF, Ev.lent, Ev.leaves, testsD, keeps, flatD, inD, itV, itW, isLo, isSeq, itD, owned, Ev.unown, mixed, isFr, settle, oneI, slD, isiD, augV, flatAt, noEx]
    have e6 : evE ⟨gl, sb, evC P gl sb fuel n, fuel⟩ (.lst [(.lc (.bc .abs [(.bc .int [(.v 2)])]) (.nm 2) .seq [(.v 0)] [] [2]), (.neg (.k (.int 1))), (.k (.int 0)), (.v 1)]) [some (false, .scr ns), some (false, .int sd), x] none = .ok (.fr, .lst [.lst ((ns.map absI).map .int), .int (-1), .int 0, .int sd]) none := by
      rw [evE, e5]
      simp [evSs, evS, evE, evEs, evTs, evT, Out.bind, Out.sr, lift, SR.seq, ixV, truD, cmD, opD, plainD, eqD, setS, setV, keep, bcD, dat, ixD, optS, asgV, asgVs, asgD, asgDs, backF, Ev.lent, Ev.leaves, testsD, keeps, flatD, inD, itV, itW, isLo, isSeq, itD, owned, Ev.unown, mixed, isFr, settle, oneI, slD, isiD, augV, flatAt, noEx]
    show ((evE _ _ _ _).sr _ _).seq _ = _
    have e7 : Ev.unown [some (false, .scr ns), some (false, .int sd), x] [1] = [some (false, .scr ns), some (false, .int sd), x] := rfl
    rw [e7, e6]
    rfl
  rw [e3]; rfl
/-- the law's first row -/
theorem law_start {c : Cc} {rs : List S} {m i : Nat} {ns : List Int} (hm : 2 ≤ m) (hn : ns.length ≤ 63) (hc : ∃ d : Drw, -1 ≤ d.p ∧ c.call i [(.sh, .scr ns)] none = .ok (.fr, .lst [.lst (d.c.map .int), .int d.p, .int d.r, .int d.s]) none)
    (h : ∀ s, Vd s → ∃ s', evSs c rs ((envL m ns).set 1 (some (false, .drw))) s = .rt (.sh, .bl true) s') : LawR c (.asg (.nm 1) (.call i [.v 0])) rs m ns := by
  obtain ⟨d, hd, e⟩ := hc
  obtain ⟨s', hs⟩ := h (some d) hd
  refine ⟨d, s', ?_, hs⟩
  have e1 : evEs c [.v 0] (envL m ns) none = .ok [(.sh, .scr ns)] none := rfl
  show (evE c (.call i [.v 0]) (envL m ns) none).sr _ _ = _
  have e2 : evE c (.call i [.v 0]) (envL m ns) none = .ok (.fr, .lst [.lst (d.c.map .int), .int d.p, .int d.r, .int d.s]) none := by
    rw [evE, e1]
    show (if mixed [(.sh, .scr ns)] then Out.stk else c.call i ([(Kd.sh, D.scr ns)].map settle) none) = _
    exact e
  rw [e2]; rfl
end Ev
set_option Elab.async false
set_option linter.all false
set_option maxRecDepth 100000
set_option maxHeartbeats 4000000
namespace Ev
open PySem PySem.Spec PyProof.Rows L2
/-! ### a drawn row -/
/-- what the draw's def keeps -/
def Tk (c : Cc) (t : Nat) : Prop := ∀ (s : Sg), Vd s → ∀ m : Int, 0 < m → m < 1073741824 → Ok (c.call t [(.sh, .drw), (.sh, .int m)] s) fun x s => Vd s ∧ ∃ r, x = (.sh, .int r) ∧ 0 ≤ r ∧ r < m
theorem Tk.at_ {c : Cc} {t : Nat} (T : Tk c t) {s : Sg} (h : Vd s) {m : Int} (h0 : 0 < m) (h1 : m < 1073741824) : ∃ r s', c.call t [(.sh, .drw), (.sh, .int m)] s = .ok (.sh, .int r) s' ∧ Vd s' ∧ 0 ≤ r ∧ r < m := by
  obtain ⟨x, s', e, hv, r, rfl, h2, h3⟩ := T s h m h0 h1
  exact ⟨r, s', e, hv, h2, h3⟩
theorem ints_of {l : List D} (h : ∀ y ∈ l, ∃ z, y = .int z) : ∃ zs : List Int, l = zs.map .int := by
  induction l with
  | nil => exact ⟨[], rfl⟩
  | cons y r ih =>
    obtain ⟨z, rfl⟩ := h y (List.mem_cons_self ..)
    obtain ⟨zs, rfl⟩ := ih fun y hy => h y (List.mem_cons_of_mem _ hy)
    exact ⟨z :: zs, rfl⟩
theorem intsD_at {l : List D} {n : Nat} (hl : l.length = n) (h : ∀ (i : Nat) y, i < n → l[i]? = some y → ∃ z, y = .int z) : ∃ zs : List Int, l = zs.map .int ∧ zs.length = n := by
  obtain ⟨zs, rfl⟩ := ints_of (l := l) fun y hy => by
    obtain ⟨i, hi, e⟩ := List.getElem_of_mem hy
    exact h i y (by omega) (by rw [List.getElem?_eq_getElem hi, e])
  exact ⟨zs, rfl, by rw [← hl, List.length_map]⟩
/-- take m - w, for every k of range(many) -/
theorem takes_lc {c : Cc} {t : Nat} (T : Tk c t) {env : Env} {s : Sg} (hs : Vd s) {many wide : Int} (h0 : 0 ≤ many) (h1 : many ≤ 1000) (w0 : 0 ≤ wide) (w1 : wide ≤ 100000) (e0 : env[0]? = some (some (false, .drw))) (e2 : env[2]? = some (some (false, .int many))) (e4 : env[4]? = some (some (false, .int wide))) (l7 : 7 < env.length) :
    Ok (evE c (.lc (.op .sub (.call t [(.v 0), (.op .add (.op .mul (.k (.int 2)) (.v 4)) (.k (.int 1)))]) (.v 4)) (.nm 7) .rg1 [(.v 2)] [] [7]) env s) fun x s' => Vd s' ∧ ∃ zs : List Int, x = (.fr, .lst (zs.map .int)) ∧ (zs.length : Int) = many := by
  have r1 : rgOk 0 many = true := by simp [rgOk]; omega
  have ln : (rngI 0 many).length = many.toNat := by rw [rngI_len, Int.sub_zero]
  refine (lc_turn (xs := [(.sh, .int many)]) (s1 := s) (items := rngI 0 many) (R := fun _ y => ∃ z, y = .int z) (by simp [evSs, evS, evE, evEs, evTs, evT, Out.bind, Out.sr, lift, SR.seq, ixV, truD, cmD, opD, plainD, eqD, setS, setV, keep, bcD, dat, ixD, optS, asgV, asgVs, asgD, asgDs, backF, Ev.lent, Ev.leaves, testsD, keeps, flatD, inD, itV, itW, isLo, isSeq, itD, owned, Ev.unown, mixed, isFr, settle, oneI, slD, isiD, augV, flatAt, noEx, e2]) hs (by simp [evSs, evS, evE, evEs, evTs, evT, Out.bind, Out.sr, lift, SR.seq, ixV, truD, cmD, opD, plainD, eqD, setS, setV, keep, bcD, dat, ixD, optS, asgV, asgVs, asgD, asgDs, backF, Ev.lent, Ev.leaves, testsD, keeps, flatD, inD, itV, itW, isLo, isSeq, itD, owned, Ev.unown, mixed, isFr, settle, oneI, slD, isiD, augV, flatAt, noEx, r1]) (fun d _ s hv => ?_) (by rw [ln]; exact small63 (by omega))).imp fun x s' ⟨hv, l, hx, hl, hr⟩ => ⟨hv, ?_⟩
  · obtain ⟨r, s', e, hv', _, _⟩ := T.at_ hv (m := 2 * wide + 1) (by omega) (by omega)
    have k0 : ((wipeE env [7]).set 7 (some (false, d)))[0]? = some (some (false, .drw)) := by
      simp [wipeE, e0]
    have k4 : ((wipeE env [7]).set 7 (some (false, d)))[4]? = some (some (false, .int wide)) := by
      simp [wipeE, e4]
    have hw : wideOk 2 wide = true := wideR _ _ (by omega) (by omega)
    exact ⟨(.sh, .int (r - wide)), s', by simp [evSs, evS, evE, evEs, evTs, evT, Out.bind, Out.sr, lift, SR.seq, ixV, truD, cmD, opD, plainD, eqD, setS, setV, keep, bcD, dat, ixD, optS, asgV, asgVs, asgD, asgDs, backF, Ev.lent, Ev.leaves, testsD, keeps, flatD, inD, itV, itW, isLo, isSeq, itD, owned, Ev.unown, mixed, isFr, settle, oneI, slD, isiD, augV, flatAt, noEx, k0, k4, hw, e], hv', .int (r - wide), rfl, _, rfl⟩
  · obtain ⟨zs, h2, h3⟩ := intsD_at (n := many.toNat) (by rw [hl, ln]) fun i y hi hy => hr i _ y (List.getElem?_eq_getElem (by rw [ln]; exact hi)) hy
    exact ⟨zs, by rw [hx, h2], by omega⟩
def rowE (most many style wide : Int) (zs : List Int) (x6 x7 x8 x9 x10 : Option (Bool × D)) : Env := [some (false, .drw), some (false, .int most), some (false, .int many), some (false, .int style), some (false, .int wide), some (true, .lst (zs.map .int)), x6, x7, x8, x9, x10]
def row1 (t : Nat) : S := (.asg (.tu [(.nm 2), (.nm 3), (.nm 4)]) (.tup [(.op .add (.k (.int 1)) (.call t [(.v 0), (.v 1)])), (.call t [(.v 0), (.k (.int 11))]), (.ix (.lst [(.k (.int 1)), (.k (.int 3)), (.k (.int 9)), (.k (.int 60))]) (.call t [(.v 0), (.k (.int 4))]))]))
theorem row1_ok {c : Cc} {t : Nat} (T : Tk c t) {s : Sg} (hs : Vd s) {most : Int} (m0 : 0 < most) (m1 : most ≤ 1000) (x5 x6 x7 x8 x9 x10 : Option (Bool × D)) :
    ∃ many style wide s', 1 ≤ many ∧ many ≤ most ∧ 0 ≤ wide ∧ wide ≤ 60 ∧ Vd s' ∧ evS c (row1 t) [some (false, .drw), some (false, .int most), none, none, none, x5, x6, x7, x8, x9, x10] s = .nx [some (false, .drw), some (false, .int most), some (false, .int many), some (false, .int style), some (false, .int wide), x5, x6, x7, x8, x9, x10] s' := by
  obtain ⟨r1, s1, e1, v1, a1, b1⟩ := T.at_ hs m0 (by omega)
  obtain ⟨r2, s2, e2, v2, a2, b2⟩ := T.at_ v1 (m := 11) (by omega) (by omega)
  obtain ⟨r3, s3, e3, v3, a3, b3⟩ := T.at_ v2 (m := 4) (by omega) (by omega)
  have hw : ∃ w, 0 ≤ w ∧ w ≤ 60 ∧ atI [D.int 1, .int 3, .int 9, .int 60] r3 = some (.int w) := by
    have : r3 = 0 ∨ r3 = 1 ∨ r3 = 2 ∨ r3 = 3 := by omega
    rcases this with h | h | h | h <;> subst h
    · exact ⟨1, by decide, by decide, rfl⟩
    · exact ⟨3, by decide, by decide, rfl⟩
    · exact ⟨9, by decide, by decide, rfl⟩
    · exact ⟨60, by decide, by decide, rfl⟩
  obtain ⟨w, w0, w1, hw⟩ := hw
  exact ⟨1 + r1, r2, w, s3, by omega, by omega, w0, w1, v3, by simp [row1, evSs, evS, evE, evEs, evTs, evT, Out.bind, Out.sr, lift, SR.seq, ixV, truD, cmD, opD, plainD, eqD, setS, setV, keep, bcD, dat, ixD, optS, asgV, asgVs, asgD, asgDs, backF, Ev.lent, Ev.leaves, testsD, keeps, flatD, inD, itV, itW, isLo, isSeq, itD, owned, Ev.unown, mixed, isFr, settle, oneI, slD, isiD, augV, flatAt, noEx, e1, e2, e3, hw]⟩
end Ev
set_option Elab.async false
set_option linter.all false
set_option maxRecDepth 100000
set_option maxHeartbeats 4000000
namespace Ev
open PySem PySem.Spec PyProof.Rows L2
section
variable {c : Cc} {t : Nat} {most many style wide : Int}
/-- the row under way -/
def RowI (most many style wide : Int) (env : Env) (s : Sg) : Prop := Vd s ∧ ∃ (zs : List Int) (x6 x7 x8 x9 x10 : Option (Bool × D)), env = rowE most many style wide zs x6 x7 x8 x9 x10 ∧ (zs.length : Int) = many
theorem set5 {e : E} {zs : List Int} {k y : Int} {x6 x8 x9 x10 : Option (Bool × D)} {s s' : Sg} (k0 : 0 ≤ k) (k1 : k < zs.length) (h : evE c e (rowE most many style wide zs x6 (some (false, .int k)) x8 x9 x10) s = .ok (.sh, .int y) s') :
    evS c (.set 5 (.v 7) e) (rowE most many style wide zs x6 (some (false, .int k)) x8 x9 x10) s = .nx (rowE most many style wide (zs.set k.toNat y) x6 (some (false, .int k)) x8 x9 x10) s' := by
  have hi : ixN zs.length k = some k.toNat := by unfold ixN; rw [if_pos k0, if_pos k1]
  have hb : (((rowE most many style wide zs x6 (some (false, .int k)) x8 x9 x10)[5]?).bind id).isSome = true := rfl
  rw [evS, if_pos hb, sr_ok h]
  have hv : evE c (.v 7) (rowE most many style wide zs x6 (some (false, .int k)) x8 x9 x10) s' = .ok (.sh, .int k) s' := rfl
  rw [sr_ok hv]
  show setS 5 (.int k) (.sh, .int y) _ s' = _
  unfold setS setV
  have he : (rowE most many style wide zs x6 (some (false, .int k)) x8 x9 x10)[5]? = some (some (true, .lst (zs.map .int))) := rfl
  rw [he]
  simp only [List.length_map, hi, keep, Option.bind_some, Option.map_some, ← List.map_set]
  rfl
theorem row_loop {e : E} {zs : List Int} {x6 x7 x8 x9 x10 : Option (Bool × D)} {s : Sg} (h0 : 1 ≤ many) (h1 : many ≤ 1000) (hs : Vd s) (hl : (zs.length : Int) = many)
    (h : ∀ (k : Int) (zs : List Int) (s : Sg), 1 ≤ k → k < many → (zs.length : Int) = many → Vd s → ∃ y s', evE c e (rowE most many style wide zs x6 (some (false, .int k)) x8 x9 x10) s = .ok (.sh, .int y) s' ∧ Vd s') :
    ∃ zs' x7' s', evS c (.lk [2] (.for_ (.nm 7) .rg2 [(.k (.int 1)), (.v 2)] [(.set 5 (.v 7) e)])) (rowE most many style wide zs x6 x7 x8 x9 x10) s = .nx (rowE most many style wide zs' x6 x7' x8 x9 x10) s' ∧ (zs'.length : Int) = many ∧ Vd s' := by
  have loop := forL_nx (asg := asgD (.nm 7)) (body := evSs c [(.set 5 (.v 7) e)]) (items := rngI 1 many) (fun _ env s => Vd s ∧ ∃ zs x7, env = rowE most many style wide zs x6 x7 x8 x9 x10 ∧ (zs.length : Int) = many) (env := rowE most many style wide zs x6 x7 x8 x9 x10) (s := s) ⟨hs, zs, x7, rfl, hl⟩ (fun j d env s hj hI => by
    obtain ⟨hv, zs, x7, rfl, hl⟩ := hI
    have hlt := (List.getElem?_eq_some_iff.mp hj).1
    rw [rngI_len] at hlt
    have hd := rngI_get hj
    subst hd
    obtain ⟨y, s', e1, hv'⟩ := h (1 + (j : Nat)) zs s (by omega) (by omega) hl hv
    have e2 := set5 (c := c) (most := most) (many := many) (style := style) (wide := wide) (by omega) (by omega) e1
    refine ⟨_, rowE most many style wide (zs.set (1 + (j : Nat) : Int).toNat y) x6 (some (false, .int (1 + (j : Nat)))) x8 x9 x10, s', rfl, .inl ?_, hv', _, _, rfl, by rw [List.length_set]; exact hl⟩
    show (evS c (.set 5 (.v 7) e) (rowE most many style wide zs x6 (some (false, .int (1 + (j : Nat)))) x8 x9 x10) s).seq _ = _
    rw [e2]; rfl)
  obtain ⟨env', s', e1, hv, zs', x7', rfl, hl'⟩ := loop
  have r1 : rgOk 1 many = true := by simp [rgOk]; omega
  refine ⟨zs', x7', s', ?_, hl', hv⟩
  rw [evS, evS]
  have e3 : Ev.unown (rowE most many style wide zs x6 x7 x8 x9 x10) [2] = rowE most many style wide zs x6 x7 x8 x9 x10 := rfl
  rw [e3]
  have e4 : evEs c [(.k (.int 1)), (.v 2)] (rowE most many style wide zs x6 x7 x8 x9 x10) s = .ok [(.sh, .int 1), (.sh, .int many)] s := rfl
  rw [sr_ok e4]
  have e5 : itW .rg2 [(.sh, .int 1), (.sh, .int many)] = some (rngI 1 many) := by simp [evSs, evS, evE, evEs, evTs, evT, Out.bind, Out.sr, lift, SR.seq, ixV, truD, cmD, opD, plainD, eqD, setS, setV, keep, bcD, dat, ixD, optS, asgV, asgVs, asgD, asgDs, backF, Ev.lent, Ev.leaves, testsD, keeps, flatD, inD, itV, itW, isLo, isSeq, itD, owned, Ev.unown, mixed, isFr, settle, oneI, slD, isiD, augV, flatAt, noEx, r1]
  rw [e5]
  exact e1
theorem at5 {zs : List Int} {j : Int} (h0 : 0 ≤ j) (h1 : j < zs.length) : ∃ z, atI (zs.map D.int) j = some (.int z) := by
  obtain ⟨z, h, _⟩ := atI_ok h0 h1
  exact ⟨z, by rw [atI_map, h]; rfl⟩
/-- items = [take .. for k in range(many)] -/
def row2 (t : Nat) : S := (.lk [2] (.asg (.nm 5) (.lc (.op .sub (.call t [(.v 0), (.op .add (.op .mul (.k (.int 2)) (.v 4)) (.k (.int 1)))]) (.v 4)) (.nm 7) .rg1 [(.v 2)] [] [7])))
theorem row2_ok (T : Tk c t) {s : Sg} (hs : Vd s) (h0 : 1 ≤ many) (h1 : many ≤ 1000) (w0 : 0 ≤ wide) (w1 : wide ≤ 60) (x5 x6 x7 x8 x9 x10 : Option (Bool × D)) : ∃ env' s', evS c (row2 t) [some (false, .drw), some (false, .int most), some (false, .int many), some (false, .int style), some (false, .int wide), x5, x6, x7, x8, x9, x10] s = .nx env' s' ∧ RowI most many style wide env' s' := by
  obtain ⟨x, s', e, hv, zs, rfl, hl⟩ := takes_lc T (env := [some (false, .drw), some (false, .int most), some (false, .int many), some (false, .int style), some (false, .int wide), x5, x6, x7, x8, x9, x10]) hs (many := many) (wide := wide) (by omega) h1 w0 (by omega) rfl rfl rfl (by show 7 < 11; decide)
  refine ⟨_, s', ?_, hv, zs, x6, x7, x8, x9, x10, rfl, hl⟩
  rw [row2, evS, evS]
  have e3 : Ev.unown [some (false, .drw), some (false, .int most), some (false, .int many), some (false, .int style), some (false, .int wide), x5, x6, x7, x8, x9, x10] [2] = [some (false, .drw), some (false, .int most), some (false, .int many), some (false, .int style), some (false, .int wide), x5, x6, x7, x8, x9, x10] := rfl
  rw [e3, sr_ok e]
  rfl
end
end Ev
set_option Elab.async false
set_option linter.all false
set_option maxRecDepth 100000
set_option maxHeartbeats 4000000
namespace Ev
open PySem PySem.Spec PyProof.Rows L2
theorem sorted_ints {zs : List Int} (h : zs.length ≤ 1000) : bcD .sorted [.lst (zs.map .int)] = some (.fr, .lst ((sortI zs).map .int)) := by
  have e : sortL (zs.map D.int) = some ((sortI zs).map .int) := by
    unfold sortL
    rw [intsD_map]
    show (if zs.length ≤ sizeLine then _ else _) = _
    rw [if_pos (small63 h)]
  show (sortL (zs.map D.int)).map _ = _
  rw [e]; rfl
theorem sortI_len (zs : List Int) : (sortI zs).length = zs.length := List.length_mergeSort ..
theorem rep_one (n : Nat) (z : Int) : repD n [D.int z] = (List.replicate n z).map .int := by
  unfold repD
  induction n with
  | zero => rfl
  | succ n ih => rw [List.replicate_succ, List.flatten_cons, ih, List.replicate_succ, List.map_cons]; rfl
section
variable {c : Cc} {t : Nat} {most many style wide : Int}
theorem seq_one {st : S} {rest : List S} {env e : Env} {s s1 : Sg} (h : evS c st env s = .nx e s1) : evSs c (st :: rest) env s = evSs c rest e s1 := nx_seq h
def row3A (t : Nat) : S := (.lk [2] (.asg (.nm 6) (.bc .sorted [(.lc (.op .sub (.call t [(.v 0), (.op .add (.op .mul (.k (.int 2)) (.v 4)) (.k (.int 1)))]) (.v 4)) (.nm 7) .rg1 [(.v 2)] [] [7])])))
theorem row3A_ok (T : Tk c t) {s : Sg} (hs : Vd s) (h0 : 1 ≤ many) (h1 : many ≤ 1000) (w0 : 0 ≤ wide) (w1 : wide ≤ 60) (zs : List Int) (x6 x7 x8 x9 x10 : Option (Bool × D)) :
    ∃ (rs : List Int) (s' : Sg), evS c (row3A t) (rowE most many style wide zs x6 x7 x8 x9 x10) s = .nx (rowE most many style wide zs (some (true, .lst (rs.map .int))) x7 x8 x9 x10) s' ∧ (rs.length : Int) = many ∧ Vd s' := by
  obtain ⟨x, s', e, hv, rs, rfl, hl⟩ := takes_lc T (env := rowE most many style wide zs x6 x7 x8 x9 x10) hs (many := many) (wide := wide) (by omega) h1 w0 (by omega) rfl rfl rfl (by show 7 < 11; decide)
  refine ⟨sortI rs, s', ?_, by rw [sortI_len]; exact hl, hv⟩
  rw [row3A, evS, evS]
  have e3 : Ev.unown (rowE most many style wide zs x6 x7 x8 x9 x10) [2] = rowE most many style wide zs x6 x7 x8 x9 x10 := rfl
  rw [e3]
  have e4 : evE c (.bc .sorted [(.lc (.op .sub (.call t [(.v 0), (.op .add (.op .mul (.k (.int 2)) (.v 4)) (.k (.int 1)))]) (.v 4)) (.nm 7) .rg1 [(.v 2)] [] [7])]) (rowE most many style wide zs x6 x7 x8 x9 x10) s = .ok (.fr, .lst ((sortI rs).map .int)) s' := by
    rw [evE, evEs, bind_ok e]
    show lift (bcD .sorted [.lst (rs.map .int)]) s' = _
    rw [sorted_ints (by omega)]; rfl
  rw [sr_ok e4]
  rfl
def row3B : S := (.lk [6] (.asg (.nm 6) (.ite (.cmp .eq (.v 3) (.k (.int 1))) (.v 6) (.ite (.cmp .eq (.v 3) (.k (.int 2))) (.rev (.v 6)) (.op .mul (.sl (.v 6) [] [(.k (.int 1))]) (.v 2))))))
theorem row3B_ok {s : Sg} (h0 : 1 ≤ many) (h1 : many ≤ 1000) {zs rs : List Int} (hr : (rs.length : Int) = many) (x7 x8 x9 x10 : Option (Bool × D)) :
    ∃ (b : Bool) (rs' : List Int), evS c row3B (rowE most many style wide zs (some (true, .lst (rs.map .int))) x7 x8 x9 x10) s = .nx (rowE most many style wide zs (some (b, .lst (rs'.map .int))) x7 x8 x9 x10) s ∧ (rs'.length : Int) = many := by
  by_cases s1 : style = 1
  · subst s1
    exact ⟨false, rs, rfl, hr⟩
  · by_cases s2 : style = 2
    · subst s2
      refine ⟨true, rs.reverse, ?_, by rw [List.length_reverse]; exact hr⟩
      have e : (rs.map D.int).reverse = rs.reverse.map .int := List.map_reverse.symm
      rw [← e]
      rfl
    · cases rs with
      | nil => simp at hr; omega
      | cons z r =>
        refine ⟨true, List.replicate many.toNat z, ?_, by rw [List.length_replicate]; omega⟩
        have c1 : cutD (.int z :: r.map .int) none (some 1) = [.int z] := by
          unfold cutD HT.sIx
          simp
        have c2 : repD many.toNat [D.int z] = (List.replicate many.toNat z).map .int := rep_one _ _
        have c3 : many.toNat ≤ sizeLine := small63 (by omega)
        have c4 : -1000000000 ≤ many := by omega
        have c5 : many ≤ 1000000000 := by omega
        simp [row3B, evSs, evS, evE, evEs, evTs, evT, Out.bind, Out.sr, lift, SR.seq, ixV, truD, cmD, opD, plainD, eqD, setS, setV, keep, bcD, dat, ixD, optS, asgV, asgVs, asgD, asgDs, backF, Ev.lent, Ev.leaves, testsD, keeps, flatD, inD, itV, itW, isLo, isSeq, itD, owned, Ev.unown, mixed, isFr, settle, oneI, slD, isiD, augV, flatAt, noEx, rowE, s1, s2, c1, c2, c3, c4, c5]
def row3C : S := (.lk [2] (.for_ (.nm 7) .rg2 [(.k (.int 1)), (.v 2)] [(.set 5 (.v 7) (.op .add (.ix (.v 5) (.op .sub (.v 7) (.k (.int 1)))) (.ix (.v 6) (.v 7))))]))
def row3 (t : Nat) : S := (.ifs (.cmp .in_ (.v 3) (.lst [(.k (.int 1)), (.k (.int 2)), (.k (.int 3))])) [row3A t, row3B, row3C] [])
theorem row3_ok (T : Tk c t) {env : Env} {s : Sg} (h0 : 1 ≤ many) (h1 : many ≤ 1000) (w0 : 0 ≤ wide) (w1 : wide ≤ 60) (h : RowI most many style wide env s) : ∃ env' s', evS c (row3 t) env s = .nx env' s' ∧ RowI most many style wide env' s' := by
  obtain ⟨hs, zs, x6, x7, x8, x9, x10, rfl, hl⟩ := h
  have ht : ∃ b, evT c (.cmp .in_ (.v 3) (.lst [(.k (.int 1)), (.k (.int 2)), (.k (.int 3))])) (rowE most many style wide zs x6 x7 x8 x9 x10) s = .ok b s := ⟨inD (.int style) [.int 1, .int 2, .int 3], rfl⟩
  obtain ⟨b, ht⟩ := ht
  rw [row3, evS, sr_ok ht]
  cases b with
  | false => exact ⟨_, s, rfl, hs, zs, x6, x7, x8, x9, x10, rfl, hl⟩
  | true =>
    rw [if_pos rfl]
    obtain ⟨rs, s1, e1, l1, v1⟩ := row3A_ok (most := most) (style := style) T hs h0 h1 w0 w1 zs x6 x7 x8 x9 x10
    obtain ⟨b2, rs2, e2, l2⟩ := row3B_ok (c := c) (most := most) (style := style) (wide := wide) (s := s1) h0 h1 (zs := zs) l1 x7 x8 x9 x10
    obtain ⟨zs3, x73, s3, e3, l3, v3⟩ := row_loop (c := c) (most := most) (style := style) (wide := wide) (e := (.op .add (.ix (.v 5) (.op .sub (.v 7) (.k (.int 1)))) (.ix (.v 6) (.v 7)))) (zs := zs) (x6 := some (b2, .lst (rs2.map .int))) (x7 := x7) (x8 := x8) (x9 := x9) (x10 := x10) h0 h1 v1 hl (fun k zs s k0 k1 hl hv => by
      obtain ⟨z1, a1⟩ := at5 (zs := zs) (j := k - 1) (by omega) (by omega)
      obtain ⟨z2, a2⟩ := at5 (zs := rs2) (j := k) (by omega) (by omega)
      exact ⟨z1 + z2, s, by simp [evSs, evS, evE, evEs, evTs, evT, Out.bind, Out.sr, lift, SR.seq, ixV, truD, cmD, opD, plainD, eqD, setS, setV, keep, bcD, dat, ixD, optS, asgV, asgVs, asgD, asgDs, backF, Ev.lent, Ev.leaves, testsD, keeps, flatD, inD, itV, itW, isLo, isSeq, itD, owned, Ev.unown, mixed, isFr, settle, oneI, slD, isiD, augV, flatAt, noEx, rowE, a1, a2], hv⟩)
    refine ⟨_, s3, ?_, v3, zs3, some (b2, .lst (rs2.map .int)), x73, x8, x9, x10, rfl, l3⟩
    rw [seq_one e1, seq_one e2]
    have e4 : evS c row3C (rowE most many style wide zs (some (b2, .lst (rs2.map .int))) x7 x8 x9 x10) s1 = _ := e3
    rw [seq_one e4]; rfl
end
end Ev
set_option Elab.async false
set_option linter.all false
set_option maxRecDepth 100000
set_option maxHeartbeats 4000000
namespace Ev
open PySem PySem.Spec PyProof.Rows L2
section
variable {c : Cc} {t : Nat} {most many style wide mend : Int}
def row4 : S := (.ifs (.cmp .in_ (.v 3) (.lst [(.k (.int 4)), (.k (.int 5))])) [(.asg (.nm 5) (.ite (.cmp .eq (.v 3) (.k (.int 4))) (.bc .sorted [(.v 5)]) (.rev (.bc .sorted [(.v 5)]))))] [])
theorem row4_ok {env : Env} {s : Sg} (h1 : many ≤ 1000) (h : RowI most many style wide env s) : ∃ env' s', evS c row4 env s = .nx env' s' ∧ RowI most many style wide env' s' := by
  obtain ⟨hs, zs, x6, x7, x8, x9, x10, rfl, hl⟩ := h
  have so := sorted_ints (zs := zs) (by omega)
  have ht : ∃ b, evT c (.cmp .in_ (.v 3) (.lst [(.k (.int 4)), (.k (.int 5))])) (rowE most many style wide zs x6 x7 x8 x9 x10) s = .ok b s := ⟨inD (.int style) [.int 4, .int 5], rfl⟩
  obtain ⟨b, ht⟩ := ht
  rw [row4, evS, sr_ok ht]
  cases b with
  | false => exact ⟨_, s, rfl, hs, zs, x6, x7, x8, x9, x10, rfl, hl⟩
  | true =>
    rw [if_pos rfl]
    have e1 : evE c (.bc .sorted [(.v 5)]) (rowE most many style wide zs x6 x7 x8 x9 x10) s = .ok (.fr, .lst ((sortI zs).map .int)) s := by
      show lift (bcD .sorted [.lst (zs.map .int)]) s = _
      rw [so]; rfl
    by_cases s1 : style = 4
    · subst s1
      refine ⟨rowE most many 4 wide (sortI zs) x6 x7 x8 x9 x10, s, ?_, hs, _, x6, x7, x8, x9, x10, rfl, by rw [sortI_len]; exact hl⟩
      show ((evE c (.bc .sorted [(.v 5)]) (rowE most many 4 wide zs x6 x7 x8 x9 x10) s).sr _ _).seq _ = _
      rw [sr_ok e1]; rfl
    · refine ⟨rowE most many style wide (sortI zs).reverse x6 x7 x8 x9 x10, s, ?_, hs, _, x6, x7, x8, x9, x10, rfl, by rw [List.length_reverse, sortI_len]; exact hl⟩
      have e2 : evE c (.rev (.bc .sorted [(.v 5)])) (rowE most many style wide zs x6 x7 x8 x9 x10) s = .ok (.fr, .lst ((sortI zs).reverse.map .int)) s := by
        rw [evE, bind_ok e1, List.map_reverse]
      have e3 : evE c (.ite (.cmp .eq (.v 3) (.k (.int 4))) (.bc .sorted [(.v 5)]) (.rev (.bc .sorted [(.v 5)]))) (rowE most many style wide zs x6 x7 x8 x9 x10) s = .ok (.fr, .lst ((sortI zs).reverse.map .int)) s := by
        rw [evE]
        have e4 : evE c (.cmp .eq (.v 3) (.k (.int 4))) (rowE most many style wide zs x6 x7 x8 x9 x10) s = .ok (.sh, .bl false) s := by simp [evSs, evS, evE, evEs, evTs, evT, Out.bind, Out.sr, lift, SR.seq, ixV, truD, cmD, opD, plainD, eqD, setS, setV, keep, bcD, dat, ixD, optS, asgV, asgVs, asgD, asgDs, backF, Ev.lent, Ev.leaves, testsD, keeps, flatD, inD, itV, itW, isLo, isSeq, itD, owned, Ev.unown, mixed, isFr, settle, oneI, slD, isiD, augV, flatAt, noEx, rowE, s1]
        rw [bind_ok e4]
        show evE c (.rev (.bc .sorted [(.v 5)])) _ s = _
        exact e2
      rw [evSs, evS, sr_ok e3]; rfl
def row5 (t : Nat) : S := (.ifs (.cmp .eq (.v 3) (.k (.int 6))) [(.psub [(8, []), (5, [(.k (.int 0))])] [(.op .add (.k (.int 1)) (.call t [(.v 0), (.k (.int 3))])), (.op .add (.k (.int 1)) (.call t [(.v 0), (.k (.int 3))]))]), (.lk [2] (.for_ (.nm 7) .rg2 [(.k (.int 1)), (.v 2)] [(.set 5 (.v 7) (.bc .min [(.op .add (.op .mul (.ix (.v 5) (.op .sub (.v 7) (.k (.int 1)))) (.v 8)) (.call t [(.v 0), (.k (.int 2))])), (.k (.int 900))]))]))] [])
theorem row5_ok (T : Tk c t) {env : Env} {s : Sg} (h0 : 1 ≤ many) (h1 : many ≤ 1000) (h : RowI most many style wide env s) : ∃ env' s', evS c (row5 t) env s = .nx env' s' ∧ RowI most many style wide env' s' := by
  obtain ⟨hs, zs, x6, x7, x8, x9, x10, rfl, hl⟩ := h
  have ht : ∃ b, evT c (.cmp .eq (.v 3) (.k (.int 6))) (rowE most many style wide zs x6 x7 x8 x9 x10) s = .ok b s := ⟨style == 6, rfl⟩
  obtain ⟨b, ht⟩ := ht
  rw [row5, evS, sr_ok ht]
  cases b with
  | false => exact ⟨_, s, rfl, hs, zs, x6, x7, x8, x9, x10, rfl, hl⟩
  | true =>
    rw [if_pos rfl]
    obtain ⟨r1, s1, e1, v1, a1, b1⟩ := T.at_ hs (m := 3) (by omega) (by omega)
    obtain ⟨r2, s2, e2, v2, a2, b2⟩ := T.at_ v1 (m := 3) (by omega) (by omega)
    have i0 : ixN zs.length 0 = some 0 := by unfold ixN; rw [if_pos (by omega), if_pos (by omega)]; rfl
    have e3 : evS c (.psub [(8, []), (5, [(.k (.int 0))])] [(.op .add (.k (.int 1)) (.call t [(.v 0), (.k (.int 3))])), (.op .add (.k (.int 1)) (.call t [(.v 0), (.k (.int 3))]))]) (rowE most many style wide zs x6 x7 x8 x9 x10) s = .nx (rowE most many style wide (zs.set 0 (1 + r2)) x6 x7 (some (false, .int (1 + r1))) x9 x10) s2 := by
      simp [evSs, evS, evE, evEs, evTs, evT, Out.bind, Out.sr, lift, SR.seq, ixV, truD, cmD, opD, plainD, eqD, setS, setV, keep, bcD, dat, ixD, optS, asgV, asgVs, asgD, asgDs, backF, Ev.lent, Ev.leaves, testsD, keeps, flatD, inD, itV, itW, isLo, isSeq, itD, owned, Ev.unown, mixed, isFr, settle, oneI, slD, isiD, augV, flatAt, noEx, rowE, e1, e2, tgsV, i0, List.map_set]
    obtain ⟨zs3, x73, s3, e4, l3, v3⟩ := row_loop (c := c) (most := most) (style := style) (wide := wide) (e := (.bc .min [(.op .add (.op .mul (.ix (.v 5) (.op .sub (.v 7) (.k (.int 1)))) (.v 8)) (.call t [(.v 0), (.k (.int 2))])), (.k (.int 900))])) (zs := zs.set 0 (1 + r2)) (x6 := x6) (x7 := x7) (x8 := some (false, .int (1 + r1))) (x9 := x9) (x10 := x10) h0 h1 v2 (by rw [List.length_set]; exact hl) (fun k zs s k0 k1 hl hv => by
      obtain ⟨z1, q1⟩ := at5 (zs := zs) (j := k - 1) (by omega) (by omega)
      obtain ⟨r3, s3, e3, v3, _, _⟩ := T.at_ hv (m := 2) (by omega) (by omega)
      have hw : wideOk z1 (1 + r1) = true := wideR _ _ (by omega) (by omega)
      exact ⟨_, s3, by simp [evSs, evS, evE, evEs, evTs, evT, Out.bind, Out.sr, lift, SR.seq, ixV, truD, cmD, opD, plainD, eqD, setS, setV, keep, bcD, dat, ixD, optS, asgV, asgVs, asgD, asgDs, backF, Ev.lent, Ev.leaves, testsD, keeps, flatD, inD, itV, itW, isLo, isSeq, itD, owned, Ev.unown, mixed, isFr, settle, oneI, slD, isiD, augV, flatAt, noEx, rowE, q1, hw, e3]; rfl, v3⟩)
    refine ⟨_, s3, ?_, v3, zs3, x6, x73, some (false, .int (1 + r1)), x9, x10, rfl, l3⟩
    rw [seq_one e3, seq_one e4]; rfl
def row6 (t : Nat) : S := (.ifs (.cmp .eq (.v 3) (.k (.int 7))) [(.lk [2] (.for_ (.nm 7) .rg2 [(.k (.int 1)), (.v 2)] [(.set 5 (.v 7) (.op .sub (.op .add (.ix (.v 5) (.op .sub (.v 7) (.k (.int 1)))) (.call t [(.v 0), (.k (.int 3))])) (.k (.int 1))))]))] [])
theorem row6_ok (T : Tk c t) {env : Env} {s : Sg} (h0 : 1 ≤ many) (h1 : many ≤ 1000) (h : RowI most many style wide env s) : ∃ env' s', evS c (row6 t) env s = .nx env' s' ∧ RowI most many style wide env' s' := by
  obtain ⟨hs, zs, x6, x7, x8, x9, x10, rfl, hl⟩ := h
  have ht : ∃ b, evT c (.cmp .eq (.v 3) (.k (.int 7))) (rowE most many style wide zs x6 x7 x8 x9 x10) s = .ok b s := ⟨style == 7, rfl⟩
  obtain ⟨b, ht⟩ := ht
  rw [row6, evS, sr_ok ht]
  cases b with
  | false => exact ⟨_, s, rfl, hs, zs, x6, x7, x8, x9, x10, rfl, hl⟩
  | true =>
    rw [if_pos rfl]
    obtain ⟨zs3, x73, s3, e4, l3, v3⟩ := row_loop (c := c) (most := most) (style := style) (wide := wide) (e := (.op .sub (.op .add (.ix (.v 5) (.op .sub (.v 7) (.k (.int 1)))) (.call t [(.v 0), (.k (.int 3))])) (.k (.int 1)))) (zs := zs) (x6 := x6) (x7 := x7) (x8 := x8) (x9 := x9) (x10 := x10) h0 h1 hs hl (fun k zs s k0 k1 hl hv => by
      obtain ⟨z1, q1⟩ := at5 (zs := zs) (j := k - 1) (by omega) (by omega)
      obtain ⟨r3, s3, e3, v3, _, _⟩ := T.at_ hv (m := 3) (by omega) (by omega)
      exact ⟨_, s3, by simp [evSs, evS, evE, evEs, evTs, evT, Out.bind, Out.sr, lift, SR.seq, ixV, truD, cmD, opD, plainD, eqD, setS, setV, keep, bcD, dat, ixD, optS, asgV, asgVs, asgD, asgDs, backF, Ev.lent, Ev.leaves, testsD, keeps, flatD, inD, itV, itW, isLo, isSeq, itD, owned, Ev.unown, mixed, isFr, settle, oneI, slD, isiD, augV, flatAt, noEx, rowE, q1, e3]; rfl, v3⟩)
    refine ⟨_, s3, ?_, v3, zs3, x6, x73, x8, x9, x10, rfl, l3⟩
    rw [seq_one e4]; rfl
/-- behind the draw of mend -/
def RowJ (most many style wide mend : Int) (env : Env) (s : Sg) : Prop := Vd s ∧ ∃ (zs : List Int) (x6 x7 x8 x10 : Option (Bool × D)), env = rowE most many style wide zs x6 x7 x8 (some (false, .int mend)) x10 ∧ (zs.length : Int) = many
def row7 (t : Nat) : S := (.asg (.nm 9) (.call t [(.v 0), (.k (.int 9))]))
theorem row7_ok (T : Tk c t) {env : Env} {s : Sg} (h : RowI most many style wide env s) : ∃ mend env' s', evS c (row7 t) env s = .nx env' s' ∧ RowJ most many style wide mend env' s' := by
  obtain ⟨hs, zs, x6, x7, x8, x9, x10, rfl, hl⟩ := h
  obtain ⟨r, s', e, v, _, _⟩ := T.at_ hs (m := 9) (by omega) (by omega)
  exact ⟨r, rowE most many style wide zs x6 x7 x8 (some (false, .int r)) x10, s', by simp [row7, evSs, evS, evE, evEs, evTs, evT, Out.bind, Out.sr, lift, SR.seq, ixV, truD, cmD, opD, plainD, eqD, setS, setV, keep, bcD, dat, ixD, optS, asgV, asgVs, asgD, asgDs, backF, Ev.lent, Ev.leaves, testsD, keeps, flatD, inD, itV, itW, isLo, isSeq, itD, owned, Ev.unown, mixed, isFr, settle, oneI, slD, isiD, augV, flatAt, noEx, rowE, e], v, zs, x6, x7, x8, x10, rfl, hl⟩
end
end Ev
set_option Elab.async false
set_option linter.all false
set_option maxRecDepth 100000
set_option maxHeartbeats 4000000
namespace Ev
open PySem PySem.Spec PyProof.Rows L2
theorem flat_ints (g : Int → Int) : ∀ zs : List Int, (zs.map D.int).flatMap (fun d => match d with | .int y => [D.int (g y)] | _ => []) = (zs.map g).map D.int
  | [] => rfl
  | y :: r => by
    rw [List.map_cons, List.flatMap_cons, flat_ints g r]; rfl
section
variable {c : Cc} {t : Nat} {most many style wide mend : Int}
theorem lc_map5 {elt : E} {g : Int → Int} {zs : List Int} {x6 x7 x8 x9 x10 : Option (Bool × D)} {s : Sg} (hl : zs.length ≤ 1000) (h : ∀ y, evE c elt (rowE most many style wide zs x6 x7 x8 x9 (some (false, .int y))) s = .ok (.sh, .int (g y)) s) :
    evE c (.lc elt (.nm 10) .seq [(.v 5)] [] [10]) (rowE most many style wide zs x6 x7 x8 x9 x10) s = .ok (.fr, .lst ((zs.map g).map .int)) s := by
  rw [← flat_ints g zs]
  refine lc_pure (s1 := s) (xs := [(.lo, .lst (zs.map .int))]) (items := zs.map D.int) _ rfl rfl (fun d hd => ?_) (by rw [flat_ints]; simp only [List.length_map]; exact small63 hl)
  obtain ⟨y, _, rfl⟩ := List.mem_map.mp hd
  have e := h y
  show (evE c elt (rowE most many style wide zs x6 x7 x8 x9 (some (false, .int y))) s).bind _ = _
  rw [bind_ok e]; rfl
theorem ifJ {e : E} {b : Bool} {st : List S} {env : Env} {s : Sg} {Q : Env → Sg → Prop} (ht : evT c e env s = .ok b s) (h0 : Q env s) (h1 : b = true → ∃ env' s', evSs c st env s = .nx env' s' ∧ Q env' s') : ∃ env' s', evS c (.ifs e st []) env s = .nx env' s' ∧ Q env' s' := by
  rw [evS, sr_ok ht]
  cases b with
  | false => exact ⟨env, s, rfl, h0⟩
  | true => exact h1 rfl
theorem asg5 {e : E} {zs zs' : List Int} {x6 x7 x8 x9 x10 : Option (Bool × D)} {s s' : Sg} (h : evE c e (rowE most many style wide zs x6 x7 x8 x9 x10) s = .ok (.fr, .lst (zs'.map .int)) s') : evSs c [.asg (.nm 5) e] (rowE most many style wide zs x6 x7 x8 x9 x10) s = .nx (rowE most many style wide zs' x6 x7 x8 x9 x10) s' := by
  rw [evSs, evS, sr_ok h]; rfl
def row8 : S := (.ifs (.cmp .in_ (.v 9) (.lst [(.k (.int 1)), (.k (.int 2))])) [(.asg (.nm 5) (.lc (.op .sub (.op .add (.bc .abs [(.v 10)]) (.v 9)) (.k (.int 1))) (.nm 10) .seq [(.v 5)] [] [10]))] [])
theorem row8_ok {env : Env} {s : Sg} (h1 : many ≤ 1000) (h : RowJ most many style wide mend env s) : ∃ env' s', evS c row8 env s = .nx env' s' ∧ RowJ most many style wide mend env' s' := by
  obtain ⟨hs, zs, x6, x7, x8, x10, rfl, hl⟩ := h
  refine ifJ (b := inD (.int mend) [.int 1, .int 2]) rfl ⟨hs, zs, x6, x7, x8, x10, rfl, hl⟩ fun _ => ?_
  exact ⟨_, s, asg5 (lc_map5 (g := fun y => absI y + mend - 1) (by omega) fun y => by simp [evSs, evS, evE, evEs, evTs, evT, Out.bind, Out.sr, lift, SR.seq, ixV, truD, cmD, opD, plainD, eqD, setS, setV, keep, bcD, dat, ixD, optS, asgV, asgVs, asgD, asgDs, backF, Ev.lent, Ev.leaves, testsD, keeps, flatD, inD, itV, itW, isLo, isSeq, itD, owned, Ev.unown, mixed, isFr, settle, oneI, slD, isiD, augV, flatAt, noEx, rowE]), hs, _, x6, x7, x8, x10, rfl, by rw [List.length_map]; exact hl⟩
def row9 : S := (.ifs (.cmp .eq (.v 9) (.k (.int 3))) [(.lk [2] (.asg (.nm 5) (.lc (.ix (.v 5) (.bc .min [(.v 7), (.op .sub (.op .sub (.v 2) (.k (.int 1))) (.v 7))])) (.nm 7) .rg1 [(.v 2)] [] [7])))] [])
theorem row9_ok {env : Env} {s : Sg} (h0 : 1 ≤ many) (h1 : many ≤ 1000) (h : RowJ most many style wide mend env s) : ∃ env' s', evS c row9 env s = .nx env' s' ∧ RowJ most many style wide mend env' s' := by
  obtain ⟨hs, zs, x6, x7, x8, x10, rfl, hl⟩ := h
  refine ifJ (b := mend == 3) rfl ⟨hs, zs, x6, x7, x8, x10, rfl, hl⟩ fun _ => ?_
  have r1 : rgOk 0 many = true := by simp [rgOk]; omega
  have ln : (rngI 0 many).length = many.toNat := by rw [rngI_len, Int.sub_zero]
  obtain ⟨x, s', e, hv, l, rfl, hl2, hr⟩ := lc_turn (c := c) (elt := (.ix (.v 5) (.bc .min [(.v 7), (.op .sub (.op .sub (.v 2) (.k (.int 1))) (.v 7))]))) (i := 7) (k := .rg1) (ies := [(.v 2)]) (own := [7]) (env := rowE most many style wide zs x6 x7 x8 (some (false, .int mend)) x10) (s := s) (xs := [(.sh, .int many)]) (s1 := s) (items := rngI 0 many) (R := fun _ y => ∃ z, y = .int z) rfl hs (by simp [evSs, evS, evE, evEs, evTs, evT, Out.bind, Out.sr, lift, SR.seq, ixV, truD, cmD, opD, plainD, eqD, setS, setV, keep, bcD, dat, ixD, optS, asgV, asgVs, asgD, asgDs, backF, Ev.lent, Ev.leaves, testsD, keeps, flatD, inD, itV, itW, isLo, isSeq, itD, owned, Ev.unown, mixed, isFr, settle, oneI, slD, isiD, augV, flatAt, noEx, r1]) (fun d hd s hv => by
    obtain ⟨i, hi, e⟩ := List.getElem_of_mem hd
    rw [ln] at hi
    have hd := rngI_get (i := i) (by rw [List.getElem?_eq_getElem (by rw [ln]; exact hi), e])
    subst hd
    have hm : ∃ j : Int, 0 ≤ j ∧ j < zs.length ∧ (if many - 1 - (0 + (i : Int)) < 0 + (i : Int) then many - 1 - (0 + (i : Int)) else 0 + (i : Int)) = j := ⟨_, by split <;> omega, by split <;> omega, rfl⟩
    obtain ⟨j, j0, j1, hj⟩ := hm
    obtain ⟨z, hz⟩ := at5 j0 j1
    refine ⟨(.sh, .int z), s, ?_, hv, .int z, rfl, z, rfl⟩
    have : evE c (.ix (.v 5) (.bc .min [(.v 7), (.op .sub (.op .sub (.v 2) (.k (.int 1))) (.v 7))])) ((wipeE (rowE most many style wide zs x6 x7 x8 (some (false, .int mend)) x10) [7]).set 7 (some (false, .int (0 + (i : Int))))) s = lift ((atI (zs.map D.int) (if many - 1 - (0 + (i : Int)) < 0 + (i : Int) then many - 1 - (0 + (i : Int)) else 0 + (i : Int))).map fun d => (Kd.sh, d)) s := rfl
    rw [this, hj, hz]; rfl) (by rw [ln]; exact small63 (by omega))
  obtain ⟨zs', rfl, hl3⟩ := intsD_at (n := many.toNat) (by rw [hl2, ln]) fun i y hi hy => hr i _ y (List.getElem?_eq_getElem (by rw [ln]; exact hi)) hy
  refine ⟨_, s', ?_, hv, zs', x6, x7, x8, x10, rfl, by omega⟩
  rw [evSs, evS]
  have e3 : Ev.unown (rowE most many style wide zs x6 x7 x8 (some (false, .int mend)) x10) [2] = rowE most many style wide zs x6 x7 x8 (some (false, .int mend)) x10 := rfl
  rw [e3, evS, sr_ok e]; rfl
def row10 : S := (.ifs (.cmp .eq (.v 9) (.k (.int 4))) [(.asg (.nm 5) (.lc (.op .sub (.v 10) (.ix (.v 5) (.k (.int 0)))) (.nm 10) .seq [(.v 5)] [] [10]))] [])
theorem row10_ok {env : Env} {s : Sg} (h0 : 1 ≤ many) (h1 : many ≤ 1000) (h : RowJ most many style wide mend env s) : ∃ env' s', evS c row10 env s = .nx env' s' ∧ RowJ most many style wide mend env' s' := by
  obtain ⟨hs, zs, x6, x7, x8, x10, rfl, hl⟩ := h
  refine ifJ (b := mend == 4) rfl ⟨hs, zs, x6, x7, x8, x10, rfl, hl⟩ fun _ => ?_
  obtain ⟨z, hz⟩ := at5 (zs := zs) (j := 0) (by omega) (by omega)
  exact ⟨_, s, asg5 (lc_map5 (g := fun y => y - z) (by omega) fun y => by simp [evSs, evS, evE, evEs, evTs, evT, Out.bind, Out.sr, lift, SR.seq, ixV, truD, cmD, opD, plainD, eqD, setS, setV, keep, bcD, dat, ixD, optS, asgV, asgVs, asgD, asgDs, backF, Ev.lent, Ev.leaves, testsD, keeps, flatD, inD, itV, itW, isLo, isSeq, itD, owned, Ev.unown, mixed, isFr, settle, oneI, slD, isiD, augV, flatAt, noEx, rowE, hz]), hs, _, x6, x7, x8, x10, rfl, by rw [List.length_map]; exact hl⟩
def row11 : S := (.ifs (.cmp .eq (.v 9) (.k (.int 5))) [(.asg (.nm 5) (.lc (.ix (.v 5) (.k (.int 0))) (.nm 10) .seq [(.v 5)] [] [10]))] [])
theorem row11_ok {env : Env} {s : Sg} (h0 : 1 ≤ many) (h1 : many ≤ 1000) (h : RowJ most many style wide mend env s) : ∃ env' s', evS c row11 env s = .nx env' s' ∧ RowJ most many style wide mend env' s' := by
  obtain ⟨hs, zs, x6, x7, x8, x10, rfl, hl⟩ := h
  refine ifJ (b := mend == 5) rfl ⟨hs, zs, x6, x7, x8, x10, rfl, hl⟩ fun _ => ?_
  obtain ⟨z, hz⟩ := at5 (zs := zs) (j := 0) (by omega) (by omega)
  exact ⟨_, s, asg5 (lc_map5 (g := fun _ => z) (by omega) fun y => by simp [evSs, evS, evE, evEs, evTs, evT, Out.bind, Out.sr, lift, SR.seq, ixV, truD, cmD, opD, plainD, eqD, setS, setV, keep, bcD, dat, ixD, optS, asgV, asgVs, asgD, asgDs, backF, Ev.lent, Ev.leaves, testsD, keeps, flatD, inD, itV, itW, isLo, isSeq, itD, owned, Ev.unown, mixed, isFr, settle, oneI, slD, isiD, augV, flatAt, noEx, rowE, hz]), hs, _, x6, x7, x8, x10, rfl, by rw [List.length_map]; exact hl⟩
def row12 : S := (.ifs (.cmp .eq (.v 9) (.k (.int 6))) [(.set 5 (.neg (.k (.int 1))) (.bc .max [(.v 5)]))] [])
theorem row12_ok {env : Env} {s : Sg} (h0 : 1 ≤ many) (h1 : many ≤ 1000) (h : RowJ most many style wide mend env s) : ∃ env' s', evS c row12 env s = .nx env' s' ∧ RowJ most many style wide mend env' s' := by
  obtain ⟨hs, zs, x6, x7, x8, x10, rfl, hl⟩ := h
  refine ifJ (b := mend == 6) rfl ⟨hs, zs, x6, x7, x8, x10, rfl, hl⟩ fun _ => ?_
  have hm : ∃ mx, maxI zs = some mx := by
    cases zs with
    | nil => simp at hl; omega
    | cons z r => exact ⟨_, rfl⟩
  obtain ⟨mx, hm⟩ := hm
  have hi : ixN zs.length (-1) = some (zs.length - 1) := by
    unfold ixN
    rw [if_neg (by omega), if_pos (by omega)]
    exact congrArg some (by omega)
  refine ⟨rowE most many style wide (zs.set (zs.length - 1) mx) x6 x7 x8 (some (false, .int mend)) x10, s, ?_, hs, _, x6, x7, x8, x10, rfl, by rw [List.length_set]; exact hl⟩
  simp [evSs, evS, evE, evEs, evTs, evT, Out.bind, Out.sr, lift, SR.seq, ixV, truD, cmD, opD, plainD, eqD, setS, setV, keep, bcD, dat, ixD, optS, asgV, asgVs, asgD, asgDs, backF, Ev.lent, Ev.leaves, testsD, keeps, flatD, inD, itV, itW, isLo, isSeq, itD, owned, Ev.unown, mixed, isFr, settle, oneI, slD, isiD, augV, flatAt, noEx, rowE, intsD_map, hm, hi, List.map_set]
def row13 (t : Nat) : S := (.ifs (.cmp .eq (.v 9) (.k (.int 7))) [(.asg (.nm 7) (.call t [(.v 0), (.v 2)])), (.set 5 (.v 7) (.op .sub (.op .add (.ix (.v 5) (.v 7)) (.call t [(.v 0), (.k (.int 3))])) (.k (.int 1))))] [])
theorem row13_ok (T : Tk c t) {env : Env} {s : Sg} (h0 : 1 ≤ many) (h1 : many ≤ 1000) (h : RowJ most many style wide mend env s) : ∃ env' s', evS c (row13 t) env s = .nx env' s' ∧ RowJ most many style wide mend env' s' := by
  obtain ⟨hs, zs, x6, x7, x8, x10, rfl, hl⟩ := h
  refine ifJ (b := mend == 7) rfl ⟨hs, zs, x6, x7, x8, x10, rfl, hl⟩ fun _ => ?_
  obtain ⟨k, s1, e1, v1, k0, k1⟩ := T.at_ hs (m := many) (by omega) (by omega)
  obtain ⟨r, s2, e2, v2, _, _⟩ := T.at_ v1 (m := 3) (by omega) (by omega)
  obtain ⟨z, hz⟩ := at5 (zs := zs) (j := k) k0 (by omega)
  have e3 : evS c (.asg (.nm 7) (.call t [(.v 0), (.v 2)])) (rowE most many style wide zs x6 x7 x8 (some (false, .int mend)) x10) s = .nx (rowE most many style wide zs x6 (some (false, .int k)) x8 (some (false, .int mend)) x10) s1 := by simp [evSs, evS, evE, evEs, evTs, evT, Out.bind, Out.sr, lift, SR.seq, ixV, truD, cmD, opD, plainD, eqD, setS, setV, keep, bcD, dat, ixD, optS, asgV, asgVs, asgD, asgDs, backF, Ev.lent, Ev.leaves, testsD, keeps, flatD, inD, itV, itW, isLo, isSeq, itD, owned, Ev.unown, mixed, isFr, settle, oneI, slD, isiD, augV, flatAt, noEx, rowE, e1]
  have e4 := set5 (c := c) (most := most) (many := many) (style := style) (wide := wide) (e := (.op .sub (.op .add (.ix (.v 5) (.v 7)) (.call t [(.v 0), (.k (.int 3))])) (.k (.int 1)))) (zs := zs) (k := k) (y := z + r - 1) (x6 := x6) (x8 := x8) (x9 := some (false, .int mend)) (x10 := x10) (s := s1) (s' := s2) k0 (by omega) (by simp [evSs, evS, evE, evEs, evTs, evT, Out.bind, Out.sr, lift, SR.seq, ixV, truD, cmD, opD, plainD, eqD, setS, setV, keep, bcD, dat, ixD, optS, asgV, asgVs, asgD, asgDs, backF, Ev.lent, Ev.leaves, testsD, keeps, flatD, inD, itV, itW, isLo, isSeq, itD, owned, Ev.unown, mixed, isFr, settle, oneI, slD, isiD, augV, flatAt, noEx, rowE, hz, e2])
  refine ⟨_, s2, ?_, v2, zs.set k.toNat (z + r - 1), x6, some (false, .int k), x8, x10, rfl, by rw [List.length_set]; exact hl⟩
  rw [seq_one e3, seq_one e4]; rfl
def clamp (y : Int) : Int := if (if y < 1000 then y else 1000) > -1000 then (if y < 1000 then y else 1000) else -1000
theorem clamp_ok (y : Int) : -1000 ≤ clamp y ∧ clamp y ≤ 1000 := by
  unfold clamp; split <;> split <;> omega
def row14 : S := (.ret (.bc .tuple [(.lc (.bc .max [(.neg (.k (.int 1000))), (.bc .min [(.k (.int 1000)), (.v 10)])]) (.nm 10) .seq [(.v 5)] [] [10])]))
theorem row14_ok {env : Env} {s : Sg} (h1 : many ≤ 1000) (h : RowJ most many style wide mend env s) : ∃ zs : List Int, evS c row14 env s = .rt (.sh, .tup (zs.map .int)) s ∧ Vd s ∧ (zs.length : Int) = many ∧ ∀ z ∈ zs, -1000 ≤ z ∧ z ≤ 1000 := by
  obtain ⟨hs, zs, x6, x7, x8, x10, rfl, hl⟩ := h
  refine ⟨zs.map clamp, ?_, hs, by rw [List.length_map]; exact hl, fun z hz => ?_⟩
  · have e := lc_map5 (c := c) (most := most) (many := many) (style := style) (wide := wide) (elt := (.bc .max [(.neg (.k (.int 1000))), (.bc .min [(.k (.int 1000)), (.v 10)])])) (g := clamp) (zs := zs) (x6 := x6) (x7 := x7) (x8 := x8) (x9 := some (false, .int mend)) (x10 := x10) (s := s) (by omega) fun y => rfl
    rw [row14, evS]
    have e2 : evE c (.bc .tuple [(.lc (.bc .max [(.neg (.k (.int 1000))), (.bc .min [(.k (.int 1000)), (.v 10)])]) (.nm 10) .seq [(.v 5)] [] [10])]) (rowE most many style wide zs x6 x7 x8 (some (false, .int mend)) x10) s = .ok (.sh, .tup ((zs.map clamp).map .int)) s := by
      rw [evE, evEs, bind_ok e]; rfl
    rw [sr_ok e2]; rfl
  · obtain ⟨y, _, rfl⟩ := List.mem_map.mp hz
    exact clamp_ok y
def rowB (t : Nat) : Fn := ⟨11, 2, [row1 t, row2 t, row3 t, row4, row5 t, row6 t, row7 t, row8, row9, row10, row11, row12, row13 t, row14]⟩
theorem row_run (T : Tk c t) {s : Sg} (hs : Vd s) {most : Int} (m0 : 0 < most) (m1 : most ≤ 1000) : Ok (backF false (evSs c (rowB t).body (envOf (rowB t) [(.sh, .drw), (.sh, .int most)]) s)) fun x s' => Vd s' ∧ ∃ zs : List Int, x = (.sh, .tup (zs.map .int)) ∧ 1 ≤ zs.length ∧ (zs.length : Int) ≤ most ∧ ∀ z ∈ zs, -1000 ≤ z ∧ z ≤ 1000 := by
  obtain ⟨many, style, wide, s1, a0, a1, a2, a3, v1, e1⟩ := row1_ok T hs m0 m1 none none none none none none
  have a4 : many ≤ 1000 := by omega
  obtain ⟨n2, s2, e2, i2⟩ := row2_ok (most := most) (style := style) T v1 a0 a4 a2 a3 none none none none none none
  obtain ⟨n3, s3, e3, i3⟩ := row3_ok T a0 a4 a2 a3 i2
  obtain ⟨n4, s4, e4, i4⟩ := row4_ok (c := c) a4 i3
  obtain ⟨n5, s5, e5, i5⟩ := row5_ok T a0 a4 i4
  obtain ⟨n6, s6, e6, i6⟩ := row6_ok T a0 a4 i5
  obtain ⟨mend, n7, s7, e7, i7⟩ := row7_ok T i6
  obtain ⟨n8, s8, e8, i8⟩ := row8_ok (c := c) a4 i7
  obtain ⟨n9, s9, e9, i9⟩ := row9_ok (c := c) a0 a4 i8
  obtain ⟨n10, s10, e10, i10⟩ := row10_ok (c := c) a0 a4 i9
  obtain ⟨n11, s11, e11, i11⟩ := row11_ok (c := c) a0 a4 i10
  obtain ⟨n12, s12, e12, i12⟩ := row12_ok (c := c) a0 a4 i11
  obtain ⟨n13, s13, e13, i13⟩ := row13_ok T a0 a4 i12
  obtain ⟨zs, e14, v14, l14, b14⟩ := row14_ok (c := c) a4 i13
  refine ⟨(.sh, .tup (zs.map .int)), s13, ?_, v14, zs, rfl, by omega, by omega, b14⟩
  have e : evSs c (rowB t).body (envOf (rowB t) [(.sh, .drw), (.sh, .int most)]) s = .rt (.sh, .tup (zs.map .int)) s13 := by
    have e1' : evS c (row1 t) (envOf (rowB t) [(.sh, .drw), (.sh, .int most)]) s = _ := e1
    show evSs c [row1 t, row2 t, row3 t, row4, row5 t, row6 t, row7 t, row8, row9, row10, row11, row12, row13 t, row14] (envOf (rowB t) [(.sh, .drw), (.sh, .int most)]) s = _
    rw [seq_one e1', seq_one e2, seq_one e3, seq_one e4, seq_one e5, seq_one e6, seq_one e7, seq_one e8, seq_one e9, seq_one e10, seq_one e11, seq_one e12, seq_one e13, evSs, e14]; rfl
  rw [e]; rfl
end
theorem row_call {P : List Fn} {gl : List D} {sb : List (Nat × Nat)} {fuel n i t : Nat} (ht : P[t]? = some takeF) (hi : P[i]? = some (rowB t)) {s : Sg} (hs : Vd s) {most : Int} (m0 : 0 < most) (m1 : most ≤ 1000) : Ok (evC P gl sb fuel (n + 2) i [(.sh, .drw), (.sh, .int most)] s) fun x s' => Vd s' ∧ ∃ zs : List Int, x = (.sh, .tup (zs.map .int)) ∧ 1 ≤ zs.length ∧ (zs.length : Int) ≤ most ∧ ∀ z ∈ zs, -1000 ≤ z ∧ z ≤ 1000 := by
  have q := row_run (c := ⟨gl, sb, evC P gl sb fuel (n + 1), fuel⟩) (t := t) (fun s hs m h0 h1 => take_call ht hs h0 h1) hs m0 m1
  have e : evC P gl sb fuel (n + 2) i [(.sh, .drw), (.sh, .int most)] s = backF false (evSs ⟨gl, sb, evC P gl sb fuel (n + 1), fuel⟩ (rowB t).body (envOf (rowB t) [(.sh, .drw), (.sh, .int most)]) s) := by
    rw [evC, hi]; rfl
  rw [e]; exact q
end Ev
set_option Elab.async false
set_option linter.all false
set_option maxRecDepth 100000
set_option maxHeartbeats 4000000
namespace Ev
open PySem PySem.Spec PyProof.Rows L2
/-! ### more plain facts -/
theorem fold_max : ∀ (l : List Int) (x : Int), (l.foldl (fun a b => if b > a then b else a) x = x ∨ l.foldl (fun a b => if b > a then b else a) x ∈ l) ∧ x ≤ l.foldl (fun a b => if b > a then b else a) x ∧ ∀ y ∈ l, y ≤ l.foldl (fun a b => if b > a then b else a) x
  | [], x => ⟨.inl rfl, Int.le_refl _, fun y h => nomatch h⟩
  | z :: r, x => by
    obtain ⟨h1, h2, h3⟩ := fold_max r (if z > x then z else x)
    simp only [List.foldl_cons]
    refine ⟨?_, ?_, fun y hy => ?_⟩
    · rcases h1 with h1 | h1
      · rw [h1]
        by_cases q : z > x
        · rw [if_pos q]; exact .inr (List.mem_cons_self ..)
        · rw [if_neg q]; exact .inl rfl
      · exact .inr (List.mem_cons_of_mem _ h1)
    · refine Int.le_trans ?_ h2
      split <;> omega
    · rcases List.mem_cons.mp hy with h | h
      · subst h
        refine Int.le_trans ?_ h2
        split <;> omega
      · exact h3 y h
theorem maxI_some {l : List Int} (h : l ≠ []) : ∃ m, maxI l = some m ∧ m ∈ l ∧ ∀ y ∈ l, y ≤ m := by
  cases l with
  | nil => exact absurd rfl h
  | cons x r =>
    obtain ⟨h1, h2, h3⟩ := fold_max r x
    refine ⟨_, rfl, ?_, fun y hy => ?_⟩
    · rcases h1 with h1 | h1
      · rw [h1]; exact List.mem_cons_self ..
      · exact List.mem_cons_of_mem _ h1
    · rcases List.mem_cons.mp hy with h | h
      · subst h; exact h2
      · exact h3 y h
theorem maxI_eq {l : List Int} {m : Int} (h1 : m ∈ l) (h2 : ∀ y ∈ l, y ≤ m) : maxI l = some m := by
  obtain ⟨k, e, h3, h4⟩ := maxI_some (l := l) (fun z => by rw [z] at h1; cases h1)
  rw [e]
  exact congrArg some (Int.le_antisymm (h2 k h3) (h4 m h1))
theorem fold_min : ∀ (l : List Int) (x : Int), (l.foldl (fun a b => if b < a then b else a) x = x ∨ l.foldl (fun a b => if b < a then b else a) x ∈ l) ∧ l.foldl (fun a b => if b < a then b else a) x ≤ x ∧ ∀ y ∈ l, l.foldl (fun a b => if b < a then b else a) x ≤ y
  | [], x => ⟨.inl rfl, Int.le_refl _, fun y h => nomatch h⟩
  | z :: r, x => by
    obtain ⟨h1, h2, h3⟩ := fold_min r (if z < x then z else x)
    simp only [List.foldl_cons]
    refine ⟨?_, ?_, fun y hy => ?_⟩
    · rcases h1 with h1 | h1
      · rw [h1]
        by_cases q : z < x
        · rw [if_pos q]; exact .inr (List.mem_cons_self ..)
        · rw [if_neg q]; exact .inl rfl
      · exact .inr (List.mem_cons_of_mem _ h1)
    · refine Int.le_trans h2 ?_
      split <;> omega
    · rcases List.mem_cons.mp hy with h | h
      · subst h
        refine Int.le_trans h2 ?_
        split <;> omega
      · exact h3 y h
theorem minI_some {l : List Int} (h : l ≠ []) : ∃ m, minI l = some m ∧ m ∈ l ∧ ∀ y ∈ l, m ≤ y := by
  cases l with
  | nil => exact absurd rfl h
  | cons x r =>
    obtain ⟨h1, h2, h3⟩ := fold_min r x
    refine ⟨_, rfl, ?_, fun y hy => ?_⟩
    · rcases h1 with h1 | h1
      · rw [h1]; exact List.mem_cons_self ..
      · exact List.mem_cons_of_mem _ h1
    · rcases List.mem_cons.mp hy with h | h
      · subst h; exact h2
      · exact h3 y h
/-- a comprehension that leaves the draw as it is, the target of any form -/
theorem lc_pureT {c : Cc} {elt : E} {tg : Tg} {k : IK} {ies cs : List E} {own : List Nat} {env : Env} {s s1 : Sg} {xs : List VD} {items : List D} (f : D → List D) (h1 : evEs c ies env s = .ok xs s1) (h2 : itV k xs = some items)
    (h3 : ∀ d ∈ items, ∃ e1, asgD tg d (wipeE env own) = some e1 ∧ (testsD (evTs c cs) e1 s1).bind (fun b s1 => if b = true then (evE c elt e1 s1).bind fun x s2 => lift ((keep x).map fun d => [d]) s2 else .ok [] s1) = .ok (f d) s1) (h4 : (items.flatMap f).length ≤ sizeLine) :
    evE c (.lc elt tg k ies cs own) env s = .ok (.fr, .lst (items.flatMap f)) s1 := by
  rw [evE, bind_ok h1, h2]
  have q := lcLoop_pure (asg := asgD tg) (one := fun e s => (testsD (evTs c cs) e s).bind fun b s1 => if b = true then (evE c elt e s1).bind fun x s2 => lift ((keep x).map fun d => [d]) s2 else .ok [] s1) (env := wipeE env own) (s := s1) f (items := items) h3
  show (noEx _).bind _ = _
  rw [q]
  show small _ _ = _
  unfold small
  rw [if_pos h4]
/-- items with their places -/
abbrev enums (zs : List Int) : List D := (zs.map D.int).zipIdx.map fun p => .tup [.int p.2, p.1]
theorem enums_flat (g : Int → Int → List Int) : ∀ (zs : List Int) (n : Nat), (((zs.map D.int).zipIdx n).map fun p => D.tup [.int p.2, p.1]).flatMap (fun d => match d with | .tup [.int k, .int z] => (g k z).map D.int | _ => []) = ((zs.zipIdx n).flatMap fun q => g q.2 q.1).map D.int
  | [], _ => rfl
  | z :: r, n => by
    simp only [List.map_cons, List.zipIdx_cons, List.flatMap_cons, List.map_append]
    rw [enums_flat g r (n + 1)]
theorem flatMap_one {α β : Type} (f : α → β) : ∀ l : List α, l.flatMap (fun x => [f x]) = l.map f
  | [] => rfl
  | x :: r => by rw [List.flatMap_cons, flatMap_one f r]; rfl
theorem mem_zipIdx {zs : List Int} {y : Int} {f : Int → Nat → Int} (h : y ∈ zs.zipIdx.map fun q => f q.1 q.2) : ∃ (k : Nat) (hk : k < zs.length), y = f zs[k] k := by
  obtain ⟨q, hq, rfl⟩ := List.mem_map.mp h
  obtain ⟨i, hi, e⟩ := List.getElem_of_mem hq
  rw [List.getElem_zipIdx] at e
  rw [List.length_zipIdx] at hi
  refine ⟨i, hi, ?_⟩
  rw [← e, Nat.zero_add]
theorem in_zipIdx {zs : List Int} {f : Int → Nat → Int} {k : Nat} (hk : k < zs.length) : f zs[k] k ∈ zs.zipIdx.map fun q => f q.1 q.2 := by
  refine List.mem_map.mpr ⟨(zs[k], k), ?_, rfl⟩
  rw [List.mem_iff_getElem]
  exact ⟨k, by rw [List.length_zipIdx]; exact hk, by rw [List.getElem_zipIdx, Nat.zero_add]⟩
end Ev
set_option Elab.async false
set_option linter.all false
set_option maxRecDepth 100000
set_option maxHeartbeats 4000000
namespace Ev
open PySem PySem.Spec PyProof.Rows L2
/-! ### defs that many laws share: whatever their numbers are -/
/-- a def's number stands for this small text -/
abbrev At (P : List Fn) (i : Nat) (f : Fn) : Prop := P[i]? = some f
section
variable {P : List Fn} {gl : List D} {sb : List (Nat × Nat)} {fuel : Nat}
theorem open_ {n i : Nat} {fn : Fn} (h : At P i fn) (xs : List VD) (s : Sg) (hl : xs.length = fn.np) : evC P gl sb fuel (n + 1) i xs s = backF (xs.any isLo) (evSs ⟨gl, sb, evC P gl sb fuel n, fuel⟩ fn.body (envOf fn xs) s) := by
  rw [evC, h]
  show (if xs.length = fn.np then _ else _) = _
  rw [if_pos hl]
def isW : D → Bool
  | .int _ => true
  | _ => false
def okD : D → Bool
  | .scr _ => false
  | .drw => false
  | _ => true
def wholeF : Fn := ⟨1, 1, [(.ret (.and_ (.isi .int (.v 0)) (.not_ (.isi .bool (.v 0)))))]⟩
theorem c_whole {w : Nat} (hw : At P w wholeF) (n : Nat) {d : D} (h : okD d = true) (s : Sg) : evC P gl sb fuel (n + 1) w [(.sh, d)] s = .ok (.sh, .bl (isW d)) s := by
  rw [open_ hw _ _ rfl]
  cases d <;> first | (cases h; done) | rfl
/-- is_row, check_row of a row of ints -/
def Row (zs : List Int) : Prop := 1 ≤ zs.length ∧ zs.length ≤ 12 ∧ ∀ z ∈ zs, -1000 ≤ z ∧ z ≤ 1000
theorem allT {l : List Bool} (h : ∀ b ∈ l, b = true) : l.all id = true := List.all_eq_true.mpr h
theorem blsD_map : ∀ l : List Bool, blsD (l.map D.bl) = some l
  | [] => rfl
  | b :: r => by simp [blsD, blsD_map r]
theorem flat_bl (g : Int → Bool) : ∀ zs : List Int, (zs.map D.int).flatMap (fun d => match d with | .int y => [D.bl (g y)] | _ => []) = (zs.map g).map D.bl
  | [] => rfl
  | y :: r => by
    rw [List.map_cons, List.flatMap_cons, flat_bl g r]; rfl
def rowF (w a b : Nat) : Fn := ⟨2, 1, [(.ifs (.or_ (.not_ (.isi .tuple (.v 0))) (.not_ (.chn .le .le (.k (.int 1)) (.bc .len [(.v 0)]) (.g a)))) [(.ret (.k (.bl false)))] []),
  (.ret (.bc .all [(.lc (.and_ (.call w [(.v 1)]) (.chn .le .le (.neg (.g b)) (.v 1) (.g b))) (.nm 1) .seq [(.v 0)] [] [1])]))]⟩
theorem c_isrow {w a b r : Nat} (hw : At P w wholeF) (hr : At P r (rowF w a b)) (ha : gl[a]? = some (.int 12)) (hb : gl[b]? = some (.int 1000)) (n : Nat) {zs : List Int} (h : Row zs) (s : Sg) : evC P gl sb fuel (n + 2) r [(.sh, .tup (zs.map .int))] s = .ok (.sh, .bl true) s := by
  obtain ⟨h1, h2, h3⟩ := h
  rw [open_ hr _ _ rfl]
  have l1 : (1 : Int) ≤ (zs.length : Int) := by omega
  have l2 : (zs.length : Int) ≤ 12 := by omega
  have e1 : evS ⟨gl, sb, evC P gl sb fuel (n + 1), fuel⟩ (.ifs (.or_ (.not_ (.isi .tuple (.v 0))) (.not_ (.chn .le .le (.k (.int 1)) (.bc .len [(.v 0)]) (.g a)))) [(.ret (.k (.bl false)))] []) [some (false, .tup (zs.map .int)), none] s = .nx [some (false, .tup (zs.map .int)), none] s := by
    simp [evSs, evS, evE, evEs, evTs, evT, Out.bind, Out.sr, lift, SR.seq, ixV, truD, cmD, opD, plainD, eqD, setS, setV, keep, bcD, dat, ixD, optS, asgV, asgVs, asgD, asgDs, backF, Ev.lent, Ev.leaves, testsD, keeps, flatD, inD, itV, itW, isLo, isSeq, itD, owned, Ev.unown, mixed, isFr, Ev.settle, oneI, slD, isiD, augV, flatAt, noEx, l1, l2, ha]
  have e2 : evE ⟨gl, sb, evC P gl sb fuel (n + 1), fuel⟩ (.lc (.and_ (.call w [(.v 1)]) (.chn .le .le (.neg (.g b)) (.v 1) (.g b))) (.nm 1) .seq [(.v 0)] [] [1]) [some (false, .tup (zs.map .int)), none] s = .ok (.fr, .lst ((zs.map fun _ => true).map .bl)) s := by
    rw [← flat_bl (fun _ => true) zs]
    refine lc_pure (s1 := s) (xs := [(.sh, .tup (zs.map .int))]) (items := zs.map D.int) _ rfl rfl (fun d hd => ?_) (by rw [flat_bl]; simp only [List.length_map]; exact small63 (by omega))
    obtain ⟨y, hy, rfl⟩ := List.mem_map.mp hd
    obtain ⟨y1, y2⟩ := h3 y hy
    have w0 : evC P gl sb fuel (n + 1) w [(.sh, .int y)] s = .ok (.sh, .bl true) s := c_whole hw n rfl s
    simp [evSs, evS, evE, evEs, evTs, evT, Out.bind, Out.sr, lift, SR.seq, ixV, truD, cmD, opD, plainD, eqD, setS, setV, keep, bcD, dat, ixD, optS, asgV, asgVs, asgD, asgDs, backF, Ev.lent, Ev.leaves, testsD, keeps, flatD, inD, itV, itW, isLo, isSeq, itD, owned, Ev.unown, mixed, isFr, Ev.settle, oneI, slD, isiD, augV, flatAt, noEx, wipeE, w0, hb, y1, y2]
  have e3 : evE ⟨gl, sb, evC P gl sb fuel (n + 1), fuel⟩ (.bc .all [(.lc (.and_ (.call w [(.v 1)]) (.chn .le .le (.neg (.g b)) (.v 1) (.g b))) (.nm 1) .seq [(.v 0)] [] [1])]) [some (false, .tup (zs.map .int)), none] s = .ok (.sh, .bl true) s := by
    rw [evE, evEs, bind_ok e2]
    have q : bcD .all [.lst ((zs.map fun _ => true).map D.bl)] = some (.sh, .bl true) := by
      show (blsD _).map _ = _
      rw [blsD_map]
      show some (Kd.sh, D.bl _) = _
      rw [allT fun b hb => by obtain ⟨_, _, rfl⟩ := List.mem_map.mp hb; rfl]
    show lift (bcD .all [.lst ((zs.map fun _ => true).map D.bl)]) s = _
    rw [q]; rfl
  show backF _ (evSs ⟨gl, sb, evC P gl sb fuel (n + 1), fuel⟩ [_, _] [some (false, .tup (zs.map .int)), none] s) = _
  rw [seq_one e1, evSs, evS, sr_ok e3]; rfl
def crowF (r x : Nat) : Fn := ⟨1, 1, [(.ifs (.not_ (.call r [(.v 0)])) [(.rse x [])] [])]⟩
theorem c_checkrow {w a b r c x : Nat} (hw : At P w wholeF) (hr : At P r (rowF w a b)) (hc : At P c (crowF r x)) (ha : gl[a]? = some (.int 12)) (hb : gl[b]? = some (.int 1000)) (n : Nat) {zs : List Int} (h : Row zs) (s : Sg) : evC P gl sb fuel (n + 3) c [(.sh, .tup (zs.map .int))] s = .ok (.sh, .non) s := by
  rw [open_ hc _ _ rfl]
  have e1 := c_isrow (sb := sb) (fuel := fuel) hw hr ha hb n h s
  simp [evSs, evS, evE, evEs, evTs, evT, Out.bind, Out.sr, lift, SR.seq, ixV, truD, cmD, opD, plainD, eqD, setS, setV, keep, bcD, dat, ixD, optS, asgV, asgVs, asgD, asgDs, backF, Ev.lent, Ev.leaves, testsD, keeps, flatD, inD, itV, itW, isLo, isSeq, itD, owned, Ev.unown, mixed, isFr, Ev.settle, oneI, slD, isiD, augV, flatAt, noEx, envOf, crowF, e1]
end
end Ev
set_option Elab.async false
set_option linter.all false
set_option maxRecDepth 100000
set_option maxHeartbeats 4000000
namespace Ev
open PySem PySem.Spec PyProof.Rows L2
/-! ### lines over rows: defs that the laws of doubles share -/
def slopeF (jw gs : Nat) : Fn := ⟨1, 1, [(.ret (.and_ (.call jw [(.v 0)]) (.chn .le .le (.neg (.g gs)) (.v 0) (.g gs))))]⟩
def cslopeF (jl jx : Nat) : Fn := ⟨1, 1, [(.ifs (.not_ (.call jl [(.v 0)])) [(.rse jx [])] [])]⟩
def overF : Fn := ⟨4, 2, [(.lk [0] (.ret (.bc .max [(.lc (.op .sub (.op .mul (.v 1) (.v 2)) (.v 3)) (.tu [(.nm 2), (.nm 3)]) .en [(.v 0)] [] [2, 3])])))]⟩
def touchF (jo : Nat) : Fn := ⟨5, 2, [(.asg (.nm 2) (.call jo [(.v 0), (.v 1)])),
  (.lk [0] (.ret (.lc (.v 3) (.tu [(.nm 3), (.nm 4)]) .en [(.v 0)] [(.cmp .eq (.op .sub (.op .mul (.v 1) (.v 3)) (.v 4)) (.v 2))] [3, 4])))]⟩
def sforF (jo jt gs : Nat) : Fn := ⟨7, 2, [(.par [(.nm 2), (.nm 3)] [(.neg (.g gs)), (.g gs)]),
  (.whl (.cmp .lt (.v 2) (.v 3)) [(.asg (.nm 4) (.op .fdiv (.op .add (.v 2) (.v 3)) (.k (.int 2)))), (.ifs (.cmp .ge (.bc .max [(.call jt [(.v 0), (.v 4)])]) (.v 1)) [(.lk [4] (.asg (.nm 3) (.v 4)))] [(.asg (.nm 2) (.op .add (.v 4) (.k (.int 1))))])]),
  (.ifs (.cmp .eq (.v 2) (.neg (.g gs))) [(.ret (.v 2))] []),
  (.par [(.nm 5), (.nm 6)] [(.op .sub (.op .mul (.v 2) (.v 1)) (.call jo [(.v 0), (.v 2)])), (.op .sub (.op .mul (.op .sub (.v 2) (.k (.int 1))) (.v 1)) (.call jo [(.v 0), (.op .sub (.v 2) (.k (.int 1)))]))]),
  (.ret (.ite (.cmp .ge (.v 5) (.v 6)) (.v 2) (.op .sub (.v 2) (.k (.int 1)))))]⟩
def bkF (jo jf : Nat) : Fn := ⟨3, 2, [(.asg (.nm 2) (.call jf [(.v 0), (.v 1)])),
  (.ret (.op .sub (.op .mul (.v 2) (.v 1)) (.call jo [(.v 0), (.v 2)])))]⟩
def twF (jc jb : Nat) : Fn := ⟨2, 1, [(.ex (.call jc [(.v 0)])),
  (.ret (.bc .tuple [(.lc (.call jb [(.v 0), (.v 1)]) (.nm 1) .rg1 [(.bc .len [(.v 0)])] [] [1])]))]⟩
structure Lib (P : List Fn) (gl : List D) (jw jr jc jl jk jo jt jf jb jv jx ga gb gs : Nat) : Prop where
  hjw : At P jw wholeF
  hjr : At P jr (rowF jw ga gb)
  hjc : At P jc (crowF jr jx)
  hjo : At P jo overF
  hjt : At P jt (touchF jo)
  hjf : At P jf (sforF jo jt gs)
  hjb : At P jb (bkF jo jf)
  hjv : At P jv (twF jc jb)
  ga : gl[ga]? = some (.int 12)
  gb : gl[gb]? = some (.int 1000)
  g0 : gl[gs]? = some (.int 2000)
section
variable {P : List Fn} {gl : List D} {sb : List (Nat × Nat)} {fuel : Nat} {jw jr jc jl jk jo jt jf jb jv jx ga gb gs : Nat}
theorem c_slope (I : Lib P gl jw jr jc jl jk jo jt jf jb jv jx ga gb gs) (hl : At P jl (slopeF jw gs)) (n : Nat) {v : Int} (h0 : -2000 ≤ v) (h1 : v ≤ 2000) (s : Sg) : evC P gl sb fuel (n + 2) jl [(.sh, .int v)] s = .ok (.sh, .bl true) s := by
  rw [open_ hl _ _ rfl]
  have w0 : evC P gl sb fuel (n + 1) jw [(.sh, .int v)] s = .ok (.sh, .bl true) s := c_whole I.hjw n rfl s
  simp [evSs, evS, evE, evEs, evTs, evT, Out.bind, Out.sr, lift, SR.seq, ixV, truD, cmD, opD, plainD, eqD, setS, setV, keep, bcD, dat, ixD, optS, asgV, asgVs, asgD, asgDs, backF, Ev.lent, Ev.leaves, testsD, keeps, flatD, inD, itV, itW, isLo, isSeq, itD, owned, Ev.unown, mixed, isFr, Ev.settle, oneI, slD, isiD, augV, flatAt, noEx, envOf, slopeF, w0, I.g0, h0, h1]
theorem c_checkslope (I : Lib P gl jw jr jc jl jk jo jt jf jb jv jx ga gb gs) (hl : At P jl (slopeF jw gs)) (hk : At P jk (cslopeF jl jx)) (n : Nat) {v : Int} (h0 : -2000 ≤ v) (h1 : v ≤ 2000) (s : Sg) : evC P gl sb fuel (n + 3) jk [(.sh, .int v)] s = .ok (.sh, .non) s := by
  rw [open_ hk _ _ rfl]
  have e1 := c_slope (sb := sb) (fuel := fuel) I hl n h0 h1 s
  simp [evSs, evS, evE, evEs, evTs, evT, Out.bind, Out.sr, lift, SR.seq, ixV, truD, cmD, opD, plainD, eqD, setS, setV, keep, bcD, dat, ixD, optS, asgV, asgVs, asgD, asgDs, backF, Ev.lent, Ev.leaves, testsD, keeps, flatD, inD, itV, itW, isLo, isSeq, itD, owned, Ev.unown, mixed, isFr, Ev.settle, oneI, slD, isiD, augV, flatAt, noEx, envOf, cslopeF, e1]
/-- over_line -/
def ovs (zs : List Int) (p : Int) : List Int := zs.zipIdx.map fun q => p * (q.2 : Nat) - q.1
def ovl (zs : List Int) (p : Int) : Int := (maxI (ovs zs p)).getD 0
theorem ovs_ne {zs : List Int} (h : Row zs) (p : Int) : ovs zs p ≠ [] := fun z => by
  have : (ovs zs p).length = zs.length := by simp [ovs]
  rw [z] at this
  have := h.1
  simp at *
  omega
theorem ovl_some {zs : List Int} (h : Row zs) (p : Int) : maxI (ovs zs p) = some (ovl zs p) := by
  obtain ⟨m, e, _⟩ := maxI_some (ovs_ne h p)
  unfold ovl; rw [e]; rfl
theorem ovl_ge {zs : List Int} (h : Row zs) (p : Int) {k : Nat} (hk : k < zs.length) : p * k - zs[k] ≤ ovl zs p := by
  obtain ⟨m, e, _, h3⟩ := maxI_some (ovs_ne h p)
  have : ovl zs p = m := by unfold ovl; rw [e]; rfl
  rw [this]
  exact h3 _ (in_zipIdx (f := fun z k => p * (k : Nat) - z) hk)
theorem ovl_at {zs : List Int} (h : Row zs) (p : Int) : ∃ (k : Nat) (hk : k < zs.length), ovl zs p = p * k - zs[k] := by
  obtain ⟨m, e, h2, _⟩ := maxI_some (ovs_ne h p)
  have : ovl zs p = m := by unfold ovl; rw [e]; rfl
  rw [this]
  exact mem_zipIdx (f := fun z k => p * (k : Nat) - z) h2
theorem c_overA (hjo : At P jo overF) (n : Nat) {zs : List Int} (h : Row zs) (p : Int) (s : Sg) : evC P gl sb fuel (n + 1) jo [(.sh, .tup (zs.map .int)), (.sh, .int p)] s = .ok (.sh, .int (ovl zs p)) s := by
  rw [open_ hjo _ _ rfl]
  have e1 : evE ⟨gl, sb, evC P gl sb fuel n, fuel⟩ (.lc (.op .sub (.op .mul (.v 1) (.v 2)) (.v 3)) (.tu [(.nm 2), (.nm 3)]) .en [(.v 0)] [] [2, 3]) [some (false, .tup (zs.map .int)), some (false, .int p), none, none] s = .ok (.fr, .lst ((ovs zs p).map .int)) s := by
    have q := enums_flat (fun k z => [p * k - z]) zs 0
    rw [flatMap_one] at q
    show _ = Out.ok (Kd.fr, D.lst ((zs.zipIdx.map fun q => p * (q.2 : Nat) - q.1).map .int)) s
    rw [← q]
    refine lc_pureT (s1 := s) (xs := [(.sh, .tup (zs.map .int))]) (items := enums zs) _ rfl rfl (fun d hd => ?_) (by rw [q]; simp only [List.length_map, List.length_zipIdx]; exact small63 (by have := h.2.1; omega))
    obtain ⟨⟨z, k⟩, hm, rfl⟩ := List.mem_map.mp hd
    obtain ⟨i, hi, e⟩ := List.getElem_of_mem hm
    rw [List.getElem_zipIdx, List.getElem_map] at e
    injection e with e1 e2
    subst e1
    have hk : k < zs.length := by
      rw [List.length_zipIdx, List.length_map] at hi
      omega
    have hw : wideOk p (k : Int) = true := wideR _ _ (by omega) (by have := h.2.1; omega)
    refine ⟨_, rfl, ?_⟩
    simp [evSs, evS, evE, evEs, evTs, evT, Out.bind, Out.sr, lift, SR.seq, ixV, truD, cmD, opD, plainD, eqD, setS, setV, keep, bcD, dat, ixD, optS, asgV, asgVs, asgD, asgDs, backF, Ev.lent, Ev.leaves, testsD, keeps, flatD, inD, itV, itW, isLo, isSeq, itD, owned, Ev.unown, mixed, isFr, Ev.settle, oneI, slD, isiD, augV, flatAt, noEx, wipeE, hw]
  have e2 : evE ⟨gl, sb, evC P gl sb fuel n, fuel⟩ (.bc .max [(.lc (.op .sub (.op .mul (.v 1) (.v 2)) (.v 3)) (.tu [(.nm 2), (.nm 3)]) .en [(.v 0)] [] [2, 3])]) [some (false, .tup (zs.map .int)), some (false, .int p), none, none] s = .ok (.sh, .int (ovl zs p)) s := by
    rw [evE, evEs, bind_ok e1]
    have q : bcD .max [.lst ((ovs zs p).map D.int)] = some (.sh, .int (ovl zs p)) := by
      show ((intsD _).bind maxI).map _ = _
      rw [intsD_map]
      show (maxI (ovs zs p)).map _ = _
      rw [ovl_some h]; rfl
    show lift (bcD .max [.lst ((ovs zs p).map D.int)]) s = _
    rw [q]; rfl
  show backF _ (evSs ⟨gl, sb, evC P gl sb fuel n, fuel⟩ [.lk [0] (.ret _)] [some (false, .tup (zs.map .int)), some (false, .int p), none, none] s) = _
  rw [evSs, evS]
  have e3 : Ev.unown [some (false, .tup (zs.map .int)), some (false, .int p), none, none] [0] = [some (false, .tup (zs.map .int)), some (false, .int p), none, none] := rfl
  rw [e3, evS, sr_ok e2]; rfl
theorem c_over (I : Lib P gl jw jr jc jl jk jo jt jf jb jv jx ga gb gs) (n : Nat) {zs : List Int} (h : Row zs) (p : Int) (s : Sg) : evC P gl sb fuel (n + 1) jo [(.sh, .tup (zs.map .int)), (.sh, .int p)] s = .ok (.sh, .int (ovl zs p)) s := c_overA I.hjo n h p s
/-- touched_by -/
def tch (zs : List Int) (p : Int) : List Int := zs.zipIdx.flatMap fun q => if p * (q.2 : Nat) - q.1 = ovl zs p then [(q.2 : Int)] else []
theorem c_touchA (hjo : At P jo overF) (hjt : At P jt (touchF jo)) (n : Nat) {zs : List Int} (h : Row zs) (p : Int) (s : Sg) : evC P gl sb fuel (n + 2) jt [(.sh, .tup (zs.map .int)), (.sh, .int p)] s = .ok (.fr, .lst ((tch zs p).map .int)) s := by
  rw [open_ hjt _ _ rfl]
  have w := c_overA (gl := gl) (sb := sb) (fuel := fuel) hjo n h p s
  have e0 : evS ⟨gl, sb, evC P gl sb fuel (n + 1), fuel⟩ (.asg (.nm 2) (.call jo [(.v 0), (.v 1)])) (envOf (touchF jo) [(.sh, .tup (zs.map .int)), (.sh, .int p)]) s = .nx [some (false, .tup (zs.map .int)), some (false, .int p), some (false, .int (ovl zs p)), none, none] s := by
    simp [evSs, evS, evE, evEs, evTs, evT, Out.bind, Out.sr, lift, SR.seq, ixV, truD, cmD, opD, plainD, eqD, setS, setV, keep, bcD, dat, ixD, optS, asgV, asgVs, asgD, asgDs, backF, Ev.lent, Ev.leaves, testsD, keeps, flatD, inD, itV, itW, isLo, isSeq, itD, owned, Ev.unown, mixed, isFr, Ev.settle, oneI, slD, isiD, augV, flatAt, noEx, envOf, touchF, w]
  have e1 : evE ⟨gl, sb, evC P gl sb fuel (n + 1), fuel⟩ (.lc (.v 3) (.tu [(.nm 3), (.nm 4)]) .en [(.v 0)] [(.cmp .eq (.op .sub (.op .mul (.v 1) (.v 3)) (.v 4)) (.v 2))] [3, 4]) [some (false, .tup (zs.map .int)), some (false, .int p), some (false, .int (ovl zs p)), none, none] s = .ok (.fr, .lst ((tch zs p).map .int)) s := by
    have q := enums_flat (fun k z => if p * k - z = ovl zs p then [k] else []) zs 0
    show _ = Out.ok (Kd.fr, D.lst ((zs.zipIdx.flatMap fun q => if p * (q.2 : Nat) - q.1 = ovl zs p then [(q.2 : Int)] else []).map .int)) s
    rw [← q]
    refine lc_pureT (s1 := s) (xs := [(.sh, .tup (zs.map .int))]) (items := enums zs) _ rfl rfl (fun d hd => ?_) (by
      rw [q, List.length_map]
      refine small63 (Nat.le_trans ?_ (Nat.le_trans h.2.1 (by decide)))
      have : ∀ (l : List (Int × Nat)), (l.flatMap fun q => if p * (q.2 : Nat) - q.1 = ovl zs p then [(q.2 : Int)] else []).length ≤ l.length := fun l => by
        induction l with
        | nil => exact Nat.le_refl _
        | cons x r ih =>
          rw [List.flatMap_cons, List.length_append, List.length_cons]
          split
          · simp only [List.length_singleton]; omega
          · simp only [List.length_nil]; omega
      have t := this zs.zipIdx
      rw [List.length_zipIdx] at t
      exact t)
    obtain ⟨⟨z, k⟩, hm, rfl⟩ := List.mem_map.mp hd
    obtain ⟨i, hi, e⟩ := List.getElem_of_mem hm
    rw [List.getElem_zipIdx, List.getElem_map] at e
    injection e with e1 e2
    subst e1
    have hk : k < zs.length := by
      rw [List.length_zipIdx, List.length_map] at hi
      omega
    have hw : wideOk p (k : Int) = true := wideR _ _ (by omega) (by have := h.2.1; omega)
    refine ⟨_, rfl, ?_⟩
    by_cases hq : p * (k : Int) - zs[i] = ovl zs p
    · simp [evSs, evS, evE, evEs, evTs, evT, Out.bind, Out.sr, lift, SR.seq, ixV, truD, cmD, opD, plainD, eqD, setS, setV, keep, bcD, dat, ixD, optS, asgV, asgVs, asgD, asgDs, backF, Ev.lent, Ev.leaves, testsD, keeps, flatD, inD, itV, itW, isLo, isSeq, itD, owned, Ev.unown, mixed, isFr, Ev.settle, oneI, slD, isiD, augV, flatAt, noEx, wipeE, hw, hq]
    · simp [evSs, evS, evE, evEs, evTs, evT, Out.bind, Out.sr, lift, SR.seq, ixV, truD, cmD, opD, plainD, eqD, setS, setV, keep, bcD, dat, ixD, optS, asgV, asgVs, asgD, asgDs, backF, Ev.lent, Ev.leaves, testsD, keeps, flatD, inD, itV, itW, isLo, isSeq, itD, owned, Ev.unown, mixed, isFr, Ev.settle, oneI, slD, isiD, augV, flatAt, noEx, wipeE, hw, hq]
  show backF _ (evSs ⟨gl, sb, evC P gl sb fuel (n + 1), fuel⟩ [_, .lk [0] (.ret _)] _ s) = _
  rw [seq_one e0, evSs, evS]
  have e3 : Ev.unown [some (false, .tup (zs.map .int)), some (false, .int p), some (false, .int (ovl zs p)), none, none] [0] = [some (false, .tup (zs.map .int)), some (false, .int p), some (false, .int (ovl zs p)), none, none] := rfl
  rw [e3, evS, sr_ok e1]; rfl
theorem c_touch (I : Lib P gl jw jr jc jl jk jo jt jf jb jv jx ga gb gs) (n : Nat) {zs : List Int} (h : Row zs) (p : Int) (s : Sg) : evC P gl sb fuel (n + 2) jt [(.sh, .tup (zs.map .int)), (.sh, .int p)] s = .ok (.fr, .lst ((tch zs p).map .int)) s := c_touchA I.hjo I.hjt n h p s
theorem mem_tch {zs : List Int} {p y : Int} : y ∈ tch zs p ↔ ∃ (k : Nat) (hk : k < zs.length), y = k ∧ p * k - zs[k] = ovl zs p := by
  unfold tch
  rw [List.mem_flatMap]
  constructor
  · rintro ⟨⟨z, k⟩, hm, hy⟩
    obtain ⟨i, hi, e⟩ := List.getElem_of_mem hm
    rw [List.getElem_zipIdx, Nat.zero_add] at e
    injection e with e1 e2
    rw [List.length_zipIdx] at hi
    subst e2
    split at hy
    · rename_i q
      rw [List.mem_singleton] at hy
      exact ⟨i, hi, hy, by rw [e1]; exact q⟩
    · cases hy
  · rintro ⟨k, hk, rfl, e⟩
    refine ⟨(zs[k], k), ?_, ?_⟩
    · rw [List.mem_iff_getElem]
      exact ⟨k, by rw [List.length_zipIdx]; exact hk, by rw [List.getElem_zipIdx, Nat.zero_add]⟩
    · rw [if_pos e]; exact List.mem_singleton.mpr rfl
/-- the greatest touched place -/
theorem tch_max {zs : List Int} (h : Row zs) (p : Int) : ∃ (k : Nat) (hk : k < zs.length), maxI (tch zs p) = some (k : Int) ∧ ovl zs p = p * k - zs[k] := by
  have ne : tch zs p ≠ [] := fun z => by
    obtain ⟨k, hk, e⟩ := ovl_at h p
    have : (k : Int) ∈ tch zs p := mem_tch.mpr ⟨k, hk, rfl, e.symm⟩
    rw [z] at this; cases this
  obtain ⟨m, e, h1, h2⟩ := maxI_some ne
  obtain ⟨k, hk, rfl, h3⟩ := mem_tch.mp h1
  exact ⟨k, hk, e, h3.symm⟩
/-! ### the line of a place -/
def gl_ (zs : List Int) (i : Int) (p : Int) : Int := p * i - ovl zs p
/-- touched at or behind i, at or ahead of i -/
def Cb (zs : List Int) (i p : Int) : Prop := ∃ (k : Nat) (hk : k < zs.length), i ≤ k ∧ ovl zs p = p * k - zs[k]
def Ca (zs : List Int) (i p : Int) : Prop := ∃ (k : Nat) (hk : k < zs.length), (k : Int) ≤ i ∧ ovl zs p = p * k - zs[k]
theorem Cb.ge {zs : List Int} (h : Row zs) {i p q : Int} (c : Cb zs i p) (hq : p ≤ q) : gl_ zs i q ≤ gl_ zs i p := by
  obtain ⟨k, hk, hi, e⟩ := c
  have h1 := ovl_ge h q hk
  unfold gl_
  rw [e]
  have h2 : 0 ≤ (q - p) * (k - i) := Int.mul_nonneg (by omega) (by omega)
  have h3 : (q - p) * (k - i) = q * k - q * i - p * k + p * i := by
    rw [Int.sub_mul, Int.mul_sub, Int.mul_sub]; omega
  omega
theorem Ca.le {zs : List Int} (h : Row zs) {i p q : Int} (c : Ca zs i p) (hq : q ≤ p) : gl_ zs i q ≤ gl_ zs i p := by
  obtain ⟨k, hk, hi, e⟩ := c
  have h1 := ovl_ge h q hk
  unfold gl_
  rw [e]
  have h2 : 0 ≤ (p - q) * (i - k) := Int.mul_nonneg (by omega) (by omega)
  have h3 : (p - q) * (i - k) = p * i - p * k - q * i + q * k := by
    rw [Int.sub_mul, Int.mul_sub, Int.mul_sub]; omega
  omega
def envS (zs : List Int) (i lo hi : Int) (x4 x5 x6 : Option (Bool × D)) : Env := [some (false, .tup (zs.map .int)), some (false, .int i), some (false, .int lo), some (false, .int hi), x4, x5, x6]
def whT : E := (.cmp .lt (.v 2) (.v 3))
def whB (jt : Nat) : List S := [(.asg (.nm 4) (.op .fdiv (.op .add (.v 2) (.v 3)) (.k (.int 2)))), (.ifs (.cmp .ge (.bc .max [(.call jt [(.v 0), (.v 4)])]) (.v 1)) [(.lk [4] (.asg (.nm 3) (.v 4)))] [(.asg (.nm 2) (.op .add (.v 4) (.k (.int 1))))])]
theorem wh_turn (I : Lib P gl jw jr jc jl jk jo jt jf jb jv jx ga gb gs) (n : Nat) {zs : List Int} (h : Row zs) (i lo hi : Int) (x4 x5 x6 : Option (Bool × D)) (s : Sg) : 
    (∃ k : Nat, ∃ hk : k < zs.length, i ≤ k ∧ ovl zs ((lo + hi).fdiv 2) = (lo + hi).fdiv 2 * k - zs[k] ∧ evSs ⟨gl, sb, evC P gl sb fuel (n + 2), fuel⟩ (whB jt) (envS zs i lo hi x4 x5 x6) s = .nx (envS zs i lo ((lo + hi).fdiv 2) (some (false, .int ((lo + hi).fdiv 2))) x5 x6) s) ∨
    (∃ k : Nat, ∃ hk : k < zs.length, (k : Int) < i ∧ ovl zs ((lo + hi).fdiv 2) = (lo + hi).fdiv 2 * k - zs[k] ∧ evSs ⟨gl, sb, evC P gl sb fuel (n + 2), fuel⟩ (whB jt) (envS zs i lo hi x4 x5 x6) s = .nx (envS zs i ((lo + hi).fdiv 2 + 1) hi (some (false, .int ((lo + hi).fdiv 2))) x5 x6) s) := by
  generalize hm : (lo + hi).fdiv 2 = m
  obtain ⟨k, hk, e1, e2⟩ := tch_max h m
  have w := c_touch (sb := sb) (fuel := fuel) I n h m s
  have a1 : evS ⟨gl, sb, evC P gl sb fuel (n + 2), fuel⟩ (.asg (.nm 4) (.op .fdiv (.op .add (.v 2) (.v 3)) (.k (.int 2)))) (envS zs i lo hi x4 x5 x6) s = .nx (envS zs i lo hi (some (false, .int m)) x5 x6) s := by
    simp [evSs, evS, evE, evEs, evTs, evT, Out.bind, Out.sr, lift, SR.seq, ixV, truD, cmD, opD, plainD, eqD, setS, setV, keep, bcD, dat, ixD, optS, asgV, asgVs, asgD, asgDs, backF, Ev.lent, Ev.leaves, testsD, keeps, flatD, inD, itV, itW, isLo, isSeq, itD, owned, Ev.unown, mixed, isFr, Ev.settle, oneI, slD, isiD, augV, flatAt, noEx, envS, hm]
  have a2 : evE ⟨gl, sb, evC P gl sb fuel (n + 2), fuel⟩ (.bc .max [(.call jt [(.v 0), (.v 4)])]) (envS zs i lo hi (some (false, .int m)) x5 x6) s = .ok (.sh, .int k) s := by
    have a3 : evE ⟨gl, sb, evC P gl sb fuel (n + 2), fuel⟩ (.call jt [(.v 0), (.v 4)]) (envS zs i lo hi (some (false, .int m)) x5 x6) s = .ok (.fr, .lst ((tch zs m).map .int)) s := w
    rw [evE, evEs, bind_ok a3]
    have q : bcD .max [.lst ((tch zs m).map D.int)] = some (.sh, .int k) := by
      show ((intsD _).bind maxI).map _ = _
      rw [intsD_map]
      show (maxI (tch zs m)).map _ = _
      rw [e1]; rfl
    show lift (bcD .max [.lst ((tch zs m).map D.int)]) s = _
    rw [q]; rfl
  have a4 : evT ⟨gl, sb, evC P gl sb fuel (n + 2), fuel⟩ (.cmp .ge (.bc .max [(.call jt [(.v 0), (.v 4)])]) (.v 1)) (envS zs i lo hi (some (false, .int m)) x5 x6) s = .ok (decide (i ≤ (k : Int))) s := by
    rw [evT, evE, bind_ok a2]; rfl
  by_cases hi' : i ≤ (k : Int)
  · refine .inl ⟨k, hk, hi', e2, ?_⟩
    rw [whB, seq_one a1, evSs, evS, sr_ok a4, decide_eq_true hi']
    rfl
  · refine .inr ⟨k, hk, by omega, e2, ?_⟩
    rw [whB, seq_one a1, evSs, evS, sr_ok a4, decide_eq_false hi']
    rfl
/-- the search ends at a slope at which places behind i are touched, and ahead of which not -/
theorem wh_run (I : Lib P gl jw jr jc jl jk jo jt jf jb jv jx ga gb gs) (n : Nat) {zs : List Int} (h : Row zs) {i : Int} (x5 x6 : Option (Bool × D)) (s : Sg) : ∀ (m f : Nat) (lo hi : Int) (x4 : Option (Bool × D)), (hi - lo).toNat < 2 ^ m → m < f → -2000 ≤ lo → lo ≤ hi → hi ≤ 2000 → (hi = 2000 ∨ Cb zs i hi) → (lo = -2000 ∨ Ca zs i (lo - 1)) →
    ∃ r x4', -2000 ≤ r ∧ r ≤ 2000 ∧ (r = 2000 ∨ Cb zs i r) ∧ (r = -2000 ∨ Ca zs i (r - 1)) ∧ whlL (evT ⟨gl, sb, evC P gl sb fuel (n + 2), fuel⟩ whT) (evSs ⟨gl, sb, evC P gl sb fuel (n + 2), fuel⟩ (whB jt)) f (envS zs i lo hi x4 x5 x6) s = .nx (envS zs i r r x4' x5 x6) s := by
  intro m
  induction m with
  | zero =>
    intro f lo hi x4 hd hf h1 h2 h3 c1 c2
    have e : lo = hi := by simp at hd; omega
    subst e
    obtain ⟨f, rfl⟩ : ∃ f', f = f' + 1 := ⟨f - 1, by omega⟩
    refine ⟨lo, x4, h1, h3, c1, c2, ?_⟩
    have ht : evT ⟨gl, sb, evC P gl sb fuel (n + 2), fuel⟩ whT (envS zs i lo lo x4 x5 x6) s = .ok (decide (lo < lo)) s := rfl
    rw [whlL, sr_ok ht, decide_eq_false (Int.lt_irrefl _)]; rfl
  | succ m ih =>
    intro f lo hi x4 hd hf h1 h2 h3 c1 c2
    obtain ⟨f, rfl⟩ : ∃ f', f = f' + 1 := ⟨f - 1, by omega⟩
    have ht : evT ⟨gl, sb, evC P gl sb fuel (n + 2), fuel⟩ whT (envS zs i lo hi x4 x5 x6) s = .ok (decide (lo < hi)) s := rfl
    by_cases e : lo = hi
    · subst e
      refine ⟨lo, x4, h1, h3, c1, c2, ?_⟩
      rw [whlL, sr_ok ht, decide_eq_false (Int.lt_irrefl _)]; rfl
    · have hlt : lo < hi := by omega
      have hmid : (lo + hi).fdiv 2 = (lo + hi) / 2 := Int.fdiv_eq_ediv_of_nonneg _ (by decide)
      have hp : 2 ^ (m + 1) = 2 * 2 ^ m := by rw [Nat.pow_succ]; omega
      rcases wh_turn (sb := sb) (fuel := fuel) I n h i lo hi x4 x5 x6 s with ⟨k, hk, q1, q2, q3⟩ | ⟨k, hk, q1, q2, q3⟩
      · obtain ⟨r, x4', r1, r2, r3, r4, r5⟩ := ih f lo ((lo + hi).fdiv 2) (some (false, .int ((lo + hi).fdiv 2))) (by omega) (by omega) h1 (by omega) (by omega) (.inr ⟨k, hk, q1, q2⟩) c2
        refine ⟨r, x4', r1, r2, r3, r4, ?_⟩
        rw [whlL, sr_ok ht, decide_eq_true hlt, if_pos rfl, q3]
        exact r5
      · obtain ⟨r, x4', r1, r2, r3, r4, r5⟩ := ih f ((lo + hi).fdiv 2 + 1) hi (some (false, .int ((lo + hi).fdiv 2))) (by omega) (by omega) (by omega) (by omega) h3 c1 (.inr ⟨k, hk, by omega, by rw [Int.add_sub_cancel]; exact q2⟩)
        refine ⟨r, x4', r1, r2, r3, r4, ?_⟩
        rw [whlL, sr_ok ht, decide_eq_true hlt, if_pos rfl, q3]
        exact r5
/-- slope_for: a slope at which the line's height at i is greatest, of the slopes up to 2000 -/
theorem c_slopefor (I : Lib P gl jw jr jc jl jk jo jt jf jb jv jx ga gb gs) (hfu : 13 ≤ fuel) (n : Nat) {zs : List Int} (h : Row zs) {i : Int} (i0 : 0 ≤ i) (i1 : i ≤ 12) (s : Sg) : ∃ r, -2000 ≤ r ∧ r ≤ 2000 ∧ (∀ q, -2000 ≤ q → q ≤ 2000 → gl_ zs i q ≤ gl_ zs i r) ∧ evC P gl sb fuel (n + 3) jf [(.sh, .tup (zs.map .int)), (.sh, .int i)] s = .ok (.sh, .int r) s := by
  rw [open_ I.hjf _ _ rfl]
  obtain ⟨r, x4, r1, r2, r3, r4, r5⟩ := wh_run (sb := sb) (fuel := fuel) I n h (i := i) none none s 12 fuel (-2000) 2000 none (by decide) (by omega) (by decide) (by decide) (by decide) (.inl rfl) (.inl rfl)
  have a1 : evS ⟨gl, sb, evC P gl sb fuel (n + 2), fuel⟩ (.par [(.nm 2), (.nm 3)] [(.neg (.g gs)), (.g gs)]) (envOf (sforF jo jt gs) [(.sh, .tup (zs.map .int)), (.sh, .int i)]) s = .nx (envS zs i (-2000) 2000 none none none) s := by
    simp [evSs, evS, evE, evEs, evTs, evT, Out.bind, Out.sr, lift, SR.seq, ixV, truD, cmD, opD, plainD, eqD, setS, setV, keep, bcD, dat, ixD, optS, asgV, asgVs, asgD, asgDs, backF, Ev.lent, Ev.leaves, testsD, keeps, flatD, inD, itV, itW, isLo, isSeq, itD, owned, Ev.unown, mixed, isFr, Ev.settle, oneI, slD, isiD, augV, flatAt, noEx, envOf, sforF, I.g0, envS]
  have a2 : evS ⟨gl, sb, evC P gl sb fuel (n + 2), fuel⟩ (.whl whT (whB jt)) (envS zs i (-2000) 2000 none none none) s = .nx (envS zs i r r x4 none none) s := r5
  have w0 := c_over (sb := sb) (fuel := fuel) I (n + 1) h r s
  have w1 := c_over (sb := sb) (fuel := fuel) I (n + 1) h (r - 1) s
  have hw : ∀ p : Int, wideOk p i = true := fun p => wideR _ _ (by omega) (by omega)
  by_cases hr : r = -2000
  · subst hr
    have c0 : Cb zs i (-2000) := r3.elim (fun z => absurd z (by decide)) id
    refine ⟨-2000, by decide, by decide, fun q q0 q1 => c0.ge h q0, ?_⟩
    have a3 : evS ⟨gl, sb, evC P gl sb fuel (n + 2), fuel⟩ (.ifs (.cmp .eq (.v 2) (.neg (.g gs))) [(.ret (.v 2))] []) (envS zs i (-2000) (-2000) x4 none none) s = .rt (.sh, .int (-2000)) s := by
      simp [evSs, evS, evE, evEs, evTs, evT, Out.bind, Out.sr, lift, SR.seq, ixV, truD, cmD, opD, plainD, eqD, setS, setV, keep, bcD, dat, ixD, optS, asgV, asgVs, asgD, asgDs, backF, Ev.lent, Ev.leaves, testsD, keeps, flatD, inD, itV, itW, isLo, isSeq, itD, owned, Ev.unown, mixed, isFr, Ev.settle, oneI, slD, isiD, augV, flatAt, noEx, I.g0, envS]
    show backF _ (evSs ⟨gl, sb, evC P gl sb fuel (n + 2), fuel⟩ [_, .whl whT (whB jt), _, _, _] _ s) = _
    rw [seq_one a1, seq_one a2, evSs, a3]; rfl
  · have c1 : Ca zs i (r - 1) := r4.elim (fun z => absurd z hr) id
    have a3 : evS ⟨gl, sb, evC P gl sb fuel (n + 2), fuel⟩ (.ifs (.cmp .eq (.v 2) (.neg (.g gs))) [(.ret (.v 2))] []) (envS zs i r r x4 none none) s = .nx (envS zs i r r x4 none none) s := by
      simp [evSs, evS, evE, evEs, evTs, evT, Out.bind, Out.sr, lift, SR.seq, ixV, truD, cmD, opD, plainD, eqD, setS, setV, keep, bcD, dat, ixD, optS, asgV, asgVs, asgD, asgDs, backF, Ev.lent, Ev.leaves, testsD, keeps, flatD, inD, itV, itW, isLo, isSeq, itD, owned, Ev.unown, mixed, isFr, Ev.settle, oneI, slD, isiD, augV, flatAt, noEx, I.g0, envS, hr]
    have a4 : evS ⟨gl, sb, evC P gl sb fuel (n + 2), fuel⟩ (.par [(.nm 5), (.nm 6)] [(.op .sub (.op .mul (.v 2) (.v 1)) (.call jo [(.v 0), (.v 2)])), (.op .sub (.op .mul (.op .sub (.v 2) (.k (.int 1))) (.v 1)) (.call jo [(.v 0), (.op .sub (.v 2) (.k (.int 1)))]))]) (envS zs i r r x4 none none) s = .nx (envS zs i r r x4 (some (false, .int (gl_ zs i r))) (some (false, .int (gl_ zs i (r - 1))))) s := by
      simp [evSs, evS, evE, evEs, evTs, evT, Out.bind, Out.sr, lift, SR.seq, ixV, truD, cmD, opD, plainD, eqD, setS, setV, keep, bcD, dat, ixD, optS, asgV, asgVs, asgD, asgDs, backF, Ev.lent, Ev.leaves, testsD, keeps, flatD, inD, itV, itW, isLo, isSeq, itD, owned, Ev.unown, mixed, isFr, Ev.settle, oneI, slD, isiD, augV, flatAt, noEx, envS, hw, w0, w1, gl_]
    have a5 : ∀ b : Int, b = (if gl_ zs i (r - 1) ≤ gl_ zs i r then r else r - 1) → evS ⟨gl, sb, evC P gl sb fuel (n + 2), fuel⟩ (.ret (.ite (.cmp .ge (.v 5) (.v 6)) (.v 2) (.op .sub (.v 2) (.k (.int 1))))) (envS zs i r r x4 (some (false, .int (gl_ zs i r))) (some (false, .int (gl_ zs i (r - 1))))) s = .rt (.sh, .int b) s := fun b hb => by
      subst hb
      by_cases hc : gl_ zs i (r - 1) ≤ gl_ zs i r
      · simp [evSs, evS, evE, evEs, evTs, evT, Out.bind, Out.sr, lift, SR.seq, ixV, truD, cmD, opD, plainD, eqD, setS, setV, keep, bcD, dat, ixD, optS, asgV, asgVs, asgD, asgDs, backF, Ev.lent, Ev.leaves, testsD, keeps, flatD, inD, itV, itW, isLo, isSeq, itD, owned, Ev.unown, mixed, isFr, Ev.settle, oneI, slD, isiD, augV, flatAt, noEx, envS, hc]
      · simp [evSs, evS, evE, evEs, evTs, evT, Out.bind, Out.sr, lift, SR.seq, ixV, truD, cmD, opD, plainD, eqD, setS, setV, keep, bcD, dat, ixD, optS, asgV, asgVs, asgD, asgDs, backF, Ev.lent, Ev.leaves, testsD, keeps, flatD, inD, itV, itW, isLo, isSeq, itD, owned, Ev.unown, mixed, isFr, Ev.settle, oneI, slD, isiD, augV, flatAt, noEx, envS, hc]
    refine ⟨if gl_ zs i (r - 1) ≤ gl_ zs i r then r else r - 1, by split <;> omega, by split <;> omega, fun q q0 q1 => ?_, ?_⟩
    · have up : r ≤ q → gl_ zs i q ≤ gl_ zs i r := fun hq => by
        rcases r3 with e | c
        · have : q = r := by omega
          rw [this]; exact Int.le_refl _
        · exact c.ge h hq
      have dn : q ≤ r - 1 → gl_ zs i q ≤ gl_ zs i (r - 1) := fun hq => c1.le h hq
      by_cases hq : r ≤ q
      · have := up hq
        split <;> omega
      · have := dn (by omega)
        split <;> omega
    · show backF _ (evSs ⟨gl, sb, evC P gl sb fuel (n + 2), fuel⟩ [_, .whl whT (whB jt), _, _, _] _ s) = _
      rw [seq_one a1, seq_one a2, seq_one a3, seq_one a4, evSs, a5 _ rfl]; rfl
/-- the greatest height at i of the lines with slopes up to 2000 -/
def best (zs : List Int) (i : Int) : Int := (maxI ((List.range 4001).map fun k : Nat => gl_ zs i ((k : Int) - 2000))).getD 0
theorem best_eq {zs : List Int} {i v r : Int} (r0 : -2000 ≤ r) (r1 : r ≤ 2000) (e : v = gl_ zs i r) (h : ∀ q, -2000 ≤ q → q ≤ 2000 → gl_ zs i q ≤ v) : best zs i = v := by
  have m : v ∈ (List.range 4001).map fun k : Nat => gl_ zs i ((k : Int) - 2000) := by
    refine List.mem_map.mpr ⟨(r + 2000).toNat, List.mem_range.mpr (by omega), ?_⟩
    have : (((r + 2000).toNat : Nat) : Int) - 2000 = r := by omega
    rw [this, e]
  have q := maxI_eq m fun y hy => by
    obtain ⟨k, hk, rfl⟩ := List.mem_map.mp hy
    have := List.mem_range.mp hk
    exact h _ (by omega) (by omega)
  unfold best
  rw [q]; rfl
theorem c_back (I : Lib P gl jw jr jc jl jk jo jt jf jb jv jx ga gb gs) (hfu : 13 ≤ fuel) (n : Nat) {zs : List Int} (h : Row zs) {i : Int} (i0 : 0 ≤ i) (i1 : i ≤ 12) (s : Sg) : evC P gl sb fuel (n + 4) jb [(.sh, .tup (zs.map .int)), (.sh, .int i)] s = .ok (.sh, .int (best zs i)) s := by
  obtain ⟨r, r0, r1, r2, r3⟩ := c_slopefor (sb := sb) (fuel := fuel) I hfu n h i0 i1 s
  rw [best_eq r0 r1 rfl r2, open_ I.hjb _ _ rfl]
  have w := c_over (sb := sb) (fuel := fuel) I (n + 2) h r s
  have hw : ∀ p : Int, wideOk p i = true := fun p => wideR _ _ (by omega) (by omega)
  simp [evSs, evS, evE, evEs, evTs, evT, Out.bind, Out.sr, lift, SR.seq, ixV, truD, cmD, opD, plainD, eqD, setS, setV, keep, bcD, dat, ixD, optS, asgV, asgVs, asgD, asgDs, backF, Ev.lent, Ev.leaves, testsD, keeps, flatD, inD, itV, itW, isLo, isSeq, itD, owned, Ev.unown, mixed, isFr, Ev.settle, oneI, slD, isiD, augV, flatAt, noEx, envOf, bkF, r3, w, hw, gl_]
theorem rng_flat (g : Int → Int) (a b : Int) : (rngI a b).flatMap (fun d => match d with | .int y => [D.int (g y)] | _ => []) = ((List.range (b - a).toNat).map fun k : Nat => g (a + (k : Nat))).map D.int := by
  unfold rngI
  generalize List.range (b - a).toNat = l
  induction l with
  | nil => rfl
  | cons k r ih => rw [List.map_cons, List.flatMap_cons, ih]; rfl
theorem c_twice (I : Lib P gl jw jr jc jl jk jo jt jf jb jv jx ga gb gs) (hfu : 13 ≤ fuel) (n : Nat) {zs : List Int} (h : Row zs) (s : Sg) : evC P gl sb fuel (n + 5) jv [(.sh, .tup (zs.map .int))] s = .ok (.sh, .tup (((List.range zs.length).map fun k => best zs (k : Nat)).map .int)) s := by
  rw [open_ I.hjv _ _ rfl]
  have w := c_checkrow (sb := sb) (fuel := fuel) I.hjw I.hjr I.hjc I.ga I.gb (n + 1) h s
  have l2 := h.2.1
  have a1 : evS ⟨gl, sb, evC P gl sb fuel (n + 4), fuel⟩ (.ex (.call jc [(.v 0)])) (envOf (twF jc jb) [(.sh, .tup (zs.map .int))]) s = .nx (envOf (twF jc jb) [(.sh, .tup (zs.map .int))]) s := by
    simp [evSs, evS, evE, evEs, evTs, evT, Out.bind, Out.sr, lift, SR.seq, ixV, truD, cmD, opD, plainD, eqD, setS, setV, keep, bcD, dat, ixD, optS, asgV, asgVs, asgD, asgDs, backF, Ev.lent, Ev.leaves, testsD, keeps, flatD, inD, itV, itW, isLo, isSeq, itD, owned, Ev.unown, mixed, isFr, Ev.settle, oneI, slD, isiD, augV, flatAt, noEx, envOf, twF, w]
  have r1 : rgOk 0 (zs.length : Int) = true := by simp [rgOk]; omega
  have q := rng_flat (fun y => best zs y) 0 (zs.length : Int)
  have e0 : ((List.range ((zs.length : Int) - 0).toNat).map fun k => best zs (0 + (k : Nat))) = (List.range zs.length).map fun k => best zs (k : Nat) := by
    rw [Int.sub_zero, Int.toNat_natCast]
    exact List.map_congr_left fun k _ => by rw [Int.zero_add]
  rw [e0] at q
  have a2 : evE ⟨gl, sb, evC P gl sb fuel (n + 4), fuel⟩ (.lc (.call jb [(.v 0), (.v 1)]) (.nm 1) .rg1 [(.bc .len [(.v 0)])] [] [1]) (envOf (twF jc jb) [(.sh, .tup (zs.map .int))]) s = .ok (.fr, .lst (((List.range zs.length).map fun k => best zs (k : Nat)).map .int)) s := by
    rw [← q]
    refine lc_pure (s1 := s) (xs := [(.sh, .int zs.length)]) (items := rngI 0 zs.length) _ (by simp [evSs, evS, evE, evEs, evTs, evT, Out.bind, Out.sr, lift, SR.seq, ixV, truD, cmD, opD, plainD, eqD, setS, setV, keep, bcD, dat, ixD, optS, asgV, asgVs, asgD, asgDs, backF, Ev.lent, Ev.leaves, testsD, keeps, flatD, inD, itV, itW, isLo, isSeq, itD, owned, Ev.unown, mixed, isFr, Ev.settle, oneI, slD, isiD, augV, flatAt, noEx, envOf, twF]) (by simp [evSs, evS, evE, evEs, evTs, evT, Out.bind, Out.sr, lift, SR.seq, ixV, truD, cmD, opD, plainD, eqD, setS, setV, keep, bcD, dat, ixD, optS, asgV, asgVs, asgD, asgDs, backF, Ev.lent, Ev.leaves, testsD, keeps, flatD, inD, itV, itW, isLo, isSeq, itD, owned, Ev.unown, mixed, isFr, Ev.settle, oneI, slD, isiD, augV, flatAt, noEx, r1]) (fun d hd => ?_) (by rw [q]; simp only [List.length_map, List.length_range]; exact small63 (by omega))
    obtain ⟨j, hj, e⟩ := List.getElem_of_mem hd
    rw [rngI_len] at hj
    have hd' := rngI_get (i := j) (by rw [List.getElem?_eq_getElem (by rw [rngI_len]; exact hj), e])
    subst hd'
    have w2 := c_back (sb := sb) (fuel := fuel) I hfu n h (i := 0 + (j : Int)) (by omega) (by omega) s
    simp [evSs, evS, evE, evEs, evTs, evT, Out.bind, Out.sr, lift, SR.seq, ixV, truD, cmD, opD, plainD, eqD, setS, setV, keep, bcD, dat, ixD, optS, asgV, asgVs, asgD, asgDs, backF, Ev.lent, Ev.leaves, testsD, keeps, flatD, inD, itV, itW, isLo, isSeq, itD, owned, Ev.unown, mixed, isFr, Ev.settle, oneI, slD, isiD, augV, flatAt, noEx, envOf, twF, wipeE] at w2 ⊢
    simp [w2]
  have a3 : evE ⟨gl, sb, evC P gl sb fuel (n + 4), fuel⟩ (.bc .tuple [(.lc (.call jb [(.v 0), (.v 1)]) (.nm 1) .rg1 [(.bc .len [(.v 0)])] [] [1])]) (envOf (twF jc jb) [(.sh, .tup (zs.map .int))]) s = .ok (.sh, .tup (((List.range zs.length).map fun k => best zs (k : Nat)).map .int)) s := by
    rw [evE, evEs, bind_ok a2]; rfl
  show backF _ (evSs ⟨gl, sb, evC P gl sb fuel (n + 4), fuel⟩ [_, _] _ s) = _
  rw [seq_one a1, evSs, evS, sr_ok a3]; rfl
end
end Ev
set_option Elab.async false
set_option linter.all false
set_option maxRecDepth 100000
set_option maxHeartbeats 4000000
namespace Ev
open PySem PySem.Spec PyProof.Rows L2
/-! ### comprehensions, in one step -/
theorem sz1000 {n : Nat} (h : n ≤ 1000) : n ≤ sizeLine := small63 h
theorem rng_all (f : Nat → D) (m : Nat) : (rngI 0 (m : Int)).flatMap (fun d => match d with | .int y => [f y.toNat] | _ => []) = (List.range m).map f := by
  unfold rngI
  rw [Int.sub_zero, Int.toNat_natCast]
  generalize List.range m = l
  induction l with
  | nil => rfl
  | cons k r ih =>
    rw [List.map_cons, List.flatMap_cons, ih]
    show [f (0 + (k : Int)).toNat] ++ _ = _
    rw [Int.zero_add, Int.toNat_natCast]; rfl
theorem rng_mem {m : Nat} {d : D} (h : d ∈ rngI 0 (m : Int)) : ∃ j : Nat, j < m ∧ d = .int j := by
  obtain ⟨j, hj, e⟩ := List.getElem_of_mem h
  have hj' := hj
  rw [rngI_len] at hj
  have hd' := rngI_get (i := j) (by rw [List.getElem?_eq_getElem hj', e])
  rw [Int.zero_add] at hd'
  exact ⟨j, by omega, hd'⟩
theorem rgBd {m : Nat} (hm : m ≤ 1000) : rgOk 0 (m : Int) = true := by simp [rgOk]; omega
section
variable {c : Cc} {e a r t : E} {x y : Nat} {env : Env} {s : Sg}
/-- [e for x in range(r)] -/
theorem lc_rg {m : Nat} {own : List Nat} (f : Nat → D) (hm : m ≤ 1000) (hr : evE c r env s = .ok (.sh, .int m) s) (h : ∀ j : Nat, j < m → evE c e ((wipeE env own).set x (some (false, .int (j : Int)))) s = .ok (.sh, f j) s) : evE c (.lc e (.nm x) .rg1 [r] [] own) env s = .ok (.fr, .lst ((List.range m).map f)) s := by
  rw [← rng_all]
  have r1 := rgBd hm
  refine lc_pure (s1 := s) (xs := [(.sh, .int m)]) (items := rngI 0 m) _ (by rw [evEs, bind_ok hr]; rfl) (by show (if rgOk 0 (m : Int) then some _ else none) = _; rw [if_pos r1]) (fun d hd => ?_) (by rw [rng_all, List.length_map, List.length_range]; exact sz1000 hm)
  obtain ⟨j, hj, rfl⟩ := rng_mem hd
  show (evE c e _ s).bind _ = _
  rw [bind_ok (h j hj)]; rfl
/-- [e for x in range(r) if t] -/
theorem lc_rgt {m : Nat} {own : List Nat} (f : Nat → D) (b : Nat → Bool) (hm : m ≤ 1000) (hr : evE c r env s = .ok (.sh, .int m) s) (ht : ∀ j : Nat, j < m → evE c t ((wipeE env own).set x (some (false, .int (j : Int)))) s = .ok (.sh, .bl (b j)) s) (h : ∀ j : Nat, j < m → b j = true → evE c e ((wipeE env own).set x (some (false, .int (j : Int)))) s = .ok (.sh, f j) s) : evE c (.lc e (.nm x) .rg1 [r] [t] own) env s = .ok (.fr, .lst (((List.range m).filter b).map f)) s := by
  have q : (rngI 0 (m : Int)).flatMap (fun d => match d with | .int y => if b y.toNat then [f y.toNat] else [] | _ => []) = ((List.range m).filter b).map f := by
    unfold rngI
    rw [Int.sub_zero, Int.toNat_natCast]
    generalize List.range m = l
    induction l with
    | nil => rfl
    | cons k r ih =>
      rw [List.map_cons, List.flatMap_cons, ih]
      show (if b (0 + (k : Int)).toNat then [f (0 + (k : Int)).toNat] else []) ++ _ = _
      rw [Int.zero_add, Int.toNat_natCast, List.filter_cons]
      cases b k <;> rfl
  rw [← q]
  have r1 := rgBd hm
  refine lc_pure (s1 := s) (xs := [(.sh, .int m)]) (items := rngI 0 m) _ (by rw [evEs, bind_ok hr]; rfl) (by show (if rgOk 0 (m : Int) then some _ else none) = _; rw [if_pos r1]) (fun d hd => ?_) (by
    rw [q, List.length_map]
    refine sz1000 (Nat.le_trans (List.length_filter_le _ _) ?_)
    rw [List.length_range]; exact hm)
  obtain ⟨j, hj, rfl⟩ := rng_mem hd
  show ((evE c t _ s).bind _).bind _ = _
  rw [bind_ok (ht j hj)]
  show (Out.ok (b j) s).bind _ = _
  rw [bind_ok rfl]
  show _ = Out.ok (if b (j : Int).toNat then [f (j : Int).toNat] else []) s
  rw [Int.toNat_natCast]
  cases hb : b j with
  | false => rfl
  | true =>
    show (evE c e _ s).bind _ = _
    rw [bind_ok (h j hj hb)]; rfl
/-- [e for x in a], a tuple or a list of this kind -/
theorem lc_seq {l : List D} {own : List Nat} {k : Kd} {d0 : D} (f : D → D) (hd : d0 = .tup l ∨ d0 = .lst l) (hm : l.length ≤ 1000) (ha : evE c a env s = .ok (k, d0) s) (h : ∀ d, d ∈ l → evE c e ((wipeE env own).set x (some (false, d))) s = .ok (.sh, f d) s) : evE c (.lc e (.nm x) .seq [a] [] own) env s = .ok (.fr, .lst (l.map f)) s := by
  rw [← flatMap_one]
  refine lc_pure (s1 := s) (xs := [(k, d0)]) (items := l) _ (by rw [evEs, bind_ok ha]; rfl) (by rcases hd with rfl | rfl <;> (cases k <;> rfl)) (fun d hd => ?_) (by rw [flatMap_one, List.length_map]; exact sz1000 hm)
  show (evE c e _ s).bind _ = _
  rw [bind_ok (h d hd)]; rfl
/-- [e for x, y in enumerate(a)] of ints -/
theorem lc_en {zs : List Int} {own : List Nat} (f : Nat → Int → D) (hm : zs.length ≤ 1000) (ha : evE c a env s = .ok (.sh, .tup (zs.map .int)) s) (h : ∀ (j : Nat) (hj : j < zs.length), evE c e (((wipeE env own).set x (some (false, .int (j : Int)))).set y (some (false, .int zs[j]))) s = .ok (.sh, f j zs[j]) s) : evE c (.lc e (.tu [.nm x, .nm y]) .en [a] [] own) env s = .ok (.fr, .lst (zs.zipIdx.map fun q => f q.2 q.1)) s := by
  have q : ∀ (l : List Int) (n : Nat), (((l.map D.int).zipIdx n).map fun p => D.tup [.int p.2, p.1]).flatMap (fun d => match d with | .tup [.int k, .int z] => [f k.toNat z] | _ => []) = (l.zipIdx n).map fun q => f q.2 q.1 := fun l => by
    induction l with
    | nil => intro _; rfl
    | cons z r ih =>
      intro n
      rw [List.map_cons, List.zipIdx_cons, List.map_cons, List.flatMap_cons, ih, List.zipIdx_cons, List.map_cons]
      show [f (n : Int).toNat z] ++ _ = _
      rw [Int.toNat_natCast]; rfl
  rw [← q]
  refine lc_pureT (s1 := s) (xs := [(.sh, .tup (zs.map .int))]) (items := enums zs) _ (by rw [evEs, bind_ok ha]; rfl) rfl (fun d hd => ?_) (by rw [q, List.length_map, List.length_zipIdx]; exact sz1000 hm)
  obtain ⟨⟨z, k⟩, hm, rfl⟩ := List.mem_map.mp hd
  obtain ⟨i, hi, e1⟩ := List.getElem_of_mem hm
  rw [List.getElem_zipIdx, List.getElem_map] at e1
  injection e1 with e1 e2
  subst e1
  rw [Nat.zero_add] at e2
  subst e2
  have hk : i < zs.length := by
    rw [List.length_zipIdx, List.length_map] at hi
    exact hi
  refine ⟨_, rfl, ?_⟩
  show (evE c e _ s).bind _ = _
  rw [bind_ok (h i hk)]
  show _ = Out.ok [f (i : Int).toNat zs[i]] s
  rw [Int.toNat_natCast]; rfl
/-- a built-in function of one expression -/
theorem bc1 {f : Bf} {k : Kd} {d : D} {v : VD} {s1 : Sg} (h : evE c e env s = .ok (k, d) s1) (hb : bcD f [d] = some v) : evE c (.bc f [e]) env s = .ok v s1 := by
  rw [evE, evEs, bind_ok h]
  show lift (bcD f [d]) s1 = _
  rw [hb]; rfl
end
theorem all_map {α : Type} (l : List α) (b : α → Bool) : bcD .all [.lst (l.map fun a => .bl (b a))] = some (.sh, .bl (l.all b)) := by
  have q : (l.map fun a => D.bl (b a)) = (l.map b).map D.bl := by rw [List.map_map]; rfl
  show (blsD _).map _ = _
  rw [q, blsD_map]
  show some (Kd.sh, D.bl ((l.map b).all id)) = _
  rw [List.all_map]; rfl
theorem any_map {α : Type} (l : List α) (b : α → Bool) : bcD .any [.lst (l.map fun a => .bl (b a))] = some (.sh, .bl (l.any b)) := by
  have q : (l.map fun a => D.bl (b a)) = (l.map b).map D.bl := by rw [List.map_map]; rfl
  show (blsD _).map _ = _
  rw [q, blsD_map]
  show some (Kd.sh, D.bl ((l.map b).any id)) = _
  rw [List.any_map]; rfl
theorem max_ints {l : List Int} {m : Int} (h : maxI l = some m) : bcD .max [.lst (l.map .int)] = some (.sh, .int m) := by
  show ((intsD _).bind maxI).map _ = _
  rw [intsD_map]
  show (maxI l).map _ = _
  rw [h]; rfl
theorem min_ints {l : List Int} {m : Int} (h : minI l = some m) : bcD .min [.lst (l.map .int)] = some (.sh, .int m) := by
  show ((intsD _).bind minI).map _ = _
  rw [intsD_map]
  show (minI l).map _ = _
  rw [h]; rfl
theorem min_tup {l : List Int} {m : Int} (h : minI l = some m) : bcD .min [.tup (l.map .int)] = some (.sh, .int m) := by
  show ((intsD _).bind minI).map _ = _
  rw [intsD_map]
  show (minI l).map _ = _
  rw [h]; rfl
theorem max_tup {l : List Int} {m : Int} (h : maxI l = some m) : bcD .max [.tup (l.map .int)] = some (.sh, .int m) := by
  show ((intsD _).bind maxI).map _ = _
  rw [intsD_map]
  show (maxI l).map _ = _
  rw [h]; rfl
theorem minI_eq {l : List Int} {m : Int} (h1 : m ∈ l) (h2 : ∀ y ∈ l, m ≤ y) : minI l = some m := by
  obtain ⟨k, e, h3, h4⟩ := minI_some (l := l) (fun z => by rw [z] at h1; cases h1)
  rw [e]
  exact congrArg some (Int.le_antisymm (h4 m h1) (h2 k h3))
/-- an int of a row, by its place -/
theorem atZ {zs : List Int} {j : Nat} (h : j < zs.length) : atI (zs.map D.int) (j : Int) = some (.int (zs.getD j 0)) := by
  obtain ⟨z, h1, h2⟩ := atI_ok (l := zs) (i := (j : Int)) (by omega) (by omega)
  rw [Int.toNat_natCast, List.getElem?_eq_getElem h] at h2
  rw [atI_map, h1]
  cases h2
  rw [List.getD_eq_getElem?_getD, List.getElem?_eq_getElem h]; rfl
theorem ixZ {zs : List Int} {j : Nat} (h : j < zs.length) : ixD (.tup (zs.map D.int)) (.int (j : Int)) = some (.int (zs.getD j 0)) := atZ h
theorem ixZl {zs : List Int} {j : Nat} (h : j < zs.length) : ixD (.lst (zs.map D.int)) (.int (j : Int)) = some (.int (zs.getD j 0)) := atZ h
theorem getD_get {zs : List Int} {j : Nat} (h : j < zs.length) : zs.getD j 0 = zs[j] := by
  rw [List.getD_eq_getElem?_getD, List.getElem?_eq_getElem h]; rfl
theorem getD_mem {zs : List Int} {j : Nat} (h : j < zs.length) : zs.getD j 0 ∈ zs := by
  rw [getD_get h]; exact List.getElem_mem h
theorem zip_all (f : Int → Nat → Bool) (zs : List Int) : (zs.zipIdx.all fun q => f q.1 q.2) = (List.range zs.length).all fun j => f (zs.getD j 0) j := by
  rw [Bool.eq_iff_iff, List.all_eq_true, List.all_eq_true]
  constructor
  · intro h j hj
    have hj := List.mem_range.mp hj
    have := h (zs[j], j) (by
      rw [List.mem_iff_getElem]
      exact ⟨j, by rw [List.length_zipIdx]; exact hj, by rw [List.getElem_zipIdx, Nat.zero_add]⟩)
    rw [getD_get hj]; exact this
  · rintro h ⟨z, k⟩ hq
    obtain ⟨i, hi, e⟩ := List.getElem_of_mem hq
    rw [List.getElem_zipIdx, Nat.zero_add] at e
    injection e with e1 e2
    rw [List.length_zipIdx] at hi
    subst e2
    have := h i (List.mem_range.mpr hi)
    rw [getD_get hi, e1] at this
    exact this
theorem zipIdx_rng (zs : List Int) : zs.zipIdx = (List.range zs.length).map fun j => (zs.getD j 0, j) := by
  apply List.ext_getElem
  · simp
  · intro i h1 h2
    rw [List.length_zipIdx] at h1
    rw [List.getElem_zipIdx, List.getElem_map, List.getElem_range, Nat.zero_add, getD_get h1]
theorem filter_flat {α : Type} (f : Nat → α) (b : Nat → Bool) (l : List Nat) : l.flatMap (fun j => if b j = true then [f j] else []) = (l.filter b).map f := by
  induction l with
  | nil => rfl
  | cons k r ih =>
    rw [List.flatMap_cons, ih, List.filter_cons]
    cases b k <;> rfl
theorem ends_ {l : List Int} (h : l ≠ []) : ∃ a b, L2.atI (l.map D.int) 0 = some (.int a) ∧ L2.atI (l.map D.int) (-1) = some (.int b) := by
  have hl : 0 < l.length := List.length_pos_iff.mpr h
  obtain ⟨a, h1, _⟩ := atI_ok (l := l) (i := 0) (by omega) (by omega)
  refine ⟨a, l[l.length - 1], by rw [atI_map, h1]; rfl, ?_⟩
  rw [atI_map]
  unfold L2.atI ixN
  have q : ((l.length : Int) + -1).toNat = l.length - 1 := by omega
  rw [if_neg (by decide), if_pos (by omega)]
  show (l[((l.length : Int) + -1).toNat]?).map D.int = _
  rw [q, List.getElem?_eq_getElem (by omega)]; rfl
theorem map_ints (g : Nat → Int) (m : Nat) : ((List.range m).map fun j => D.int (g j)) = ((List.range m).map g).map D.int := by rw [List.map_map]; rfl
end Ev
set_option Elab.async false
set_option linter.all false
set_option maxRecDepth 100000
set_option maxHeartbeats 4000000
namespace Ev
open PySem PySem.Spec PyProof.Rows L2
/-! ### words of kinds, arrows, what they lead to -/
def wordsD : List D := [.str ⟨#[114, 105, 115, 101]⟩, .str ⟨#[115, 116, 114, 105, 99, 116]⟩, .str ⟨#[102, 97, 108, 108]⟩, .str ⟨#[99, 111, 110, 115, 116]⟩, .str ⟨#[101, 118, 101, 110]⟩, .str ⟨#[99, 111, 110, 118, 101, 120]⟩, .str ⟨#[99, 111, 110, 99, 97, 118, 101]⟩, .str ⟨#[108, 111, 103, 99]⟩, .str ⟨#[108, 111, 103, 120]⟩, .str ⟨#[109, 105, 114, 114, 111, 114]⟩, .str ⟨#[115, 117, 98]⟩, .str ⟨#[115, 117, 112, 101, 114]⟩, .str ⟨#[115, 116, 97, 114]⟩, .str ⟨#[122, 101, 114, 111]⟩, .str ⟨#[112, 111, 115]⟩, .str ⟨#[108, 105, 112]⟩, .str ⟨#[108, 97, 115, 116]⟩]
def arN : List (List Nat) := [[1, 0], [0, 16], [3, 0], [3, 2], [3, 4], [3, 9], [3, 15], [4, 5], [4, 6], [7, 14], [8, 5], [8, 14]]
def joN : List (List Nat) := [[2, 0, 3], [9, 0, 2], [2, 9, 0], [2, 1, 12], [15, 1, 4], [2, 14, 10], [2, 16, 0], [3, 14, 8], [6, 5, 4], [5, 9, 16], [5, 11, 12], [5, 13, 11], [6, 13, 10], [6, 14, 7], [6, 14, 10], [6, 16, 0], [15, 7, 6], [15, 8, 10], [10, 11, 4], [10, 11, 13], [12, 10, 5], [12, 13, 11], [16, 7, 0]]
def brN : List (List Nat) := [[14, 11], [14, 13]]
def W (i : Nat) : D := wordsD.getD i .non
def stD (st : List Nat) : D := .tup (st.map W)
def allN : List Nat := List.range 17
def Lt (l : List Nat) : Prop := ∀ i ∈ l, i < 17
def has (l : List Nat) (i : Nat) : Bool := l.any fun j => Nat.beq j i
theorem eqWb : (allN.all fun i => allN.all fun j => (eqD (W i) (W j) == Nat.beq i j)) = true := by kernel_rfl
theorem eqW {i j : Nat} (hi : i < 17) (hj : j < 17) : eqD (W i) (W j) = Nat.beq i j := by
  have h := eqWb
  rw [List.all_eq_true] at h
  have h2 := h i (List.mem_range.mpr hi)
  rw [List.all_eq_true] at h2
  exact beq_iff_eq.mp (h2 j (List.mem_range.mpr hj))
def isStr : D → Bool
  | .str _ => true
  | _ => false
theorem strW {i : Nat} (hi : i < 17) : ∃ z, W i = .str z := by
  have h : (allN.all fun i => isStr (W i)) = true := by rfl
  rw [List.all_eq_true] at h
  have q := h i (List.mem_range.mpr hi)
  generalize W i = d at q
  cases d <;> first | exact ⟨_, rfl⟩ | (cases q; done)
theorem plW {i : Nat} (hi : i < 17) (n : Nat) : plainD n (W i) = true := by
  obtain ⟨z, e⟩ := strW hi
  rw [e]
  cases n <;> rfl
theorem flW {i : Nat} (hi : i < 17) : flatD (W i) = true := by
  obtain ⟨z, e⟩ := strW hi
  rw [e]; rfl
theorem lfsW : ∀ {l : List Nat}, Lt l → lfs (l.map W) = true
  | [], _ => rfl
  | i :: r, h => by
    obtain ⟨z, e⟩ := strW (h i (List.mem_cons_self ..))
    rw [List.map_cons, e]
    show (true && lfs (r.map W)) = true
    rw [lfsW fun j hj => h j (List.mem_cons_of_mem _ hj)]; rfl
theorem flsW : ∀ {l : List Nat}, Lt l → (l.map W).all flatD = true
  | [], _ => rfl
  | i :: r, h => by
    rw [List.map_cons, List.all_cons, flW (h i (List.mem_cons_self ..)), flsW fun j hj => h j (List.mem_cons_of_mem _ hj)]; rfl
theorem inW {i : Nat} (hi : i < 17) : ∀ {l : List Nat}, Lt l → inD (W i) (l.map W) = has l i
  | [], _ => rfl
  | j :: r, h => by
    show (eqD (W j) (W i) || inD (W i) (r.map W)) = (Nat.beq j i || has r i)
    rw [eqW (h j (List.mem_cons_self ..)) hi, inW hi fun k hk => h k (List.mem_cons_of_mem _ hk)]
/-- a step: two words or three -/
def Gst (st : List Nat) : Prop := Lt st ∧ (st.length = 2 ∨ st.length = 3)
def lastN (st : List Nat) : Nat := st.getLastD 0
theorem Gst.last {st : List Nat} (h : Gst st) : lastN st < 17 ∧ L2.atI (st.map W) (-1) = some (W (lastN st)) ∧ cutD (st.map W) none (some (-1)) = st.dropLast.map W ∧ Lt st.dropLast := by
  obtain ⟨h1, h2⟩ := h
  match st, h2 with
  | [a, b], _ => exact ⟨h1 b (by simp), rfl, rfl, fun i hi => h1 i (List.dropLast_subset _ hi)⟩
  | [a, b, c], _ => exact ⟨h1 c (by simp), rfl, rfl, fun i hi => h1 i (List.dropLast_subset _ hi)⟩
  | [], h => simp at h
  | [_], h => simp at h
  | _ :: _ :: _ :: _ :: _, h => simp at h
def steps : List (List Nat) := arN ++ joN
theorem steps_gd : ∀ st ∈ steps, Gst st := by
  have h : (steps.all fun st => (st.all fun i => decide (i < 17)) && (decide (st.length = 2) || decide (st.length = 3))) = true := by decide
  rw [List.all_eq_true] at h
  intro st hs
  have q := h st hs
  simp only [Bool.and_eq_true, Bool.or_eq_true, List.all_eq_true, decide_eq_true_eq] at q
  exact ⟨fun i hi => q.1 i hi, q.2⟩
/-- .. that goes from some words to a word -/
def goes (l : List Nat) (w : Nat) (st : List Nat) : Bool := Nat.beq (lastN st) w && st.dropLast.all (has l)
def way (l : List Nat) (w : Nat) : Option (List Nat) := steps.find? (goes l w)
def wayD : Option (List Nat) → D
  | some st => stD st
  | none => .non
section
variable {P : List Fn} {gl : List D} {sb : List (Nat × Nat)} {fuel : Nat} {g0 g1 g2 g3 jx : Nat}
def cwordF (g0 jx : Nat) : Fn := ⟨1, 1, [(.ifs (.or_ (.not_ (.isi .str (.v 0))) (.cmp .notin (.v 0) (.g g0))) [(.rse jx [])] [])]⟩
def cwordsF (jc jx : Nat) : Fn := ⟨2, 1, [(.ifs (.or_ (.not_ (.isi .tuple (.v 0))) (.not_ (.chn .le .le (.k (.int 1)) (.bc .len [(.v 0)]) (.k (.int 2))))) [(.rse jx [])] []),
  (.lk [0] (.for_ (.nm 1) .seq [(.v 0)] [(.ex (.call jc [(.v 1)]))]))]⟩
def wayB : List S := [(.ifs (.and_ (.cmp .eq (.ix (.v 2) (.neg (.k (.int 1)))) (.v 1)) (.bc .all [(.lc (.cmp .in_ (.v 3) (.v 0)) (.nm 3) .seq [(.sl (.v 2) [] [(.neg (.k (.int 1)))])] [] [3])])) [(.ret (.v 2))] [])]
def wayF (g1 g2 : Nat) : Fn := ⟨4, 2, [(.for_ (.nm 2) .seq [(.op .add (.g g1) (.g g2))] wayB),
  (.ret (.k .non))]⟩
def derB (jw : Nat) : List S := [(.asg (.nm 5) (.call jw [(.v 1), (.v 4)])), (.ifs (.and_ (.cmp .notin (.v 4) (.v 1)) (.cmp .isnt (.v 5) (.k .non))) [(.lk [4] (.app 1 (.v 4))), (.lk [5] (.app 2 (.v 5))), (.asg (.nm 3) (.k (.bl true)))] [])]
def derL (g0 jw : Nat) : S := (.for_ (.nm 4) .seq [(.g g0)] (derB jw))
def derF (g0 jw : Nat) : Fn := ⟨6, 1, [(.par [(.nm 1), (.nm 2), (.nm 3)] [(.bc .list [(.v 0)]), (.lst []), (.k (.bl true))]),
  (.whl (.v 3) [(.asg (.nm 3) (.k (.bl false))), derL g0 jw]),
  (.lk [1, 2] (.ret (.tup [(.v 1), (.v 2)])))]⟩
def barF (g3 : Nat) : Fn := ⟨3, 1, [(.asg (.nm 1) (.lc (.v 2) (.nm 2) .seq [(.g g3)] [(.and_ (.cmp .in_ (.ix (.v 2) (.k (.int 0))) (.v 0)) (.cmp .in_ (.ix (.v 2) (.k (.int 1))) (.v 0)))] [2])),
  (.ret (.ite (.cmp .gt (.bc .len [(.v 1)]) (.k (.int 0))) (.ix (.v 1) (.k (.int 0))) (.k .non)))]⟩
def forcF (g0 jcs jd jb : Nat) : Fn := ⟨3, 1, [(.ex (.call jcs [(.v 0)])),
  (.asg (.nm 1) (.ix (.call jd [(.v 0)]) (.k (.int 0)))),
  (.ifs (.cmp .isnt (.call jb [(.v 1)]) (.k .non)) [(.ret (.g g0))] []),
  (.ret (.bc .tuple [(.lc (.v 2) (.nm 2) .seq [(.g g0)] [(.cmp .in_ (.v 2) (.v 1))] [2])]))]⟩
def doesF (jc jf : Nat) : Fn := ⟨2, 2, [(.ex (.call jc [(.v 1)])),
  (.ret (.cmp .in_ (.v 1) (.call jf [(.v 0)])))]⟩
/-- check_word at a word -/
theorem c_cword {jc : Nat} (h : At P jc (cwordF g0 jx)) (h0 : gl[g0]? = some (stD allN)) (n : Nat) {w : Nat} (hw : w < 17) (s : Sg) : evC P gl sb fuel (n + 1) jc [(.sh, W w)] s = .ok (.sh, .non) s := by
  rw [open_ h _ _ rfl]
  have hall : Lt allN := fun i hi => List.mem_range.mp hi
  have q : inD (W w) (allN.map W) = true := by
    rw [inW hw hall]
    have : w ∈ allN := List.mem_range.mpr hw
    exact List.any_eq_true.mpr ⟨w, this, Nat.beq_refl w⟩
  have f1 := flW hw
  have f2 := flsW hall
  obtain ⟨z, e⟩ := strW hw
  have a1 : evE ⟨gl, sb, evC P gl sb fuel n, fuel⟩ (.not_ (.isi .str (.v 0))) [some (false, W w)] s = .ok (.sh, .bl false) s := by
    rw [e]; rfl
  have a2 : evE ⟨gl, sb, evC P gl sb fuel n, fuel⟩ (.cmp .notin (.v 0) (.g g0)) [some (false, W w)] s = .ok (.sh, .bl false) s := by
    rw [evE, evE]
    show (evE _ (.g g0) _ s).bind _ = _
    have a3 : evE ⟨gl, sb, evC P gl sb fuel n, fuel⟩ (.g g0) [some (false, W w)] s = .ok (.sh, stD allN) s := by
      rw [evE, h0]; rfl
    rw [bind_ok a3]
    show lift ((if flatD (W w) && (allN.map W).all flatD then some (!inD (W w) (allN.map W)) else _).map _) s = _
    rw [f1, f2, q]; rfl
  have a4 : evT ⟨gl, sb, evC P gl sb fuel n, fuel⟩ (.or_ (.not_ (.isi .str (.v 0))) (.cmp .notin (.v 0) (.g g0))) [some (false, W w)] s = .ok false s := by
    have a5 : evE ⟨gl, sb, evC P gl sb fuel n, fuel⟩ (.or_ (.not_ (.isi .str (.v 0))) (.cmp .notin (.v 0) (.g g0))) [some (false, W w)] s = .ok (.sh, .bl false) s := by
      rw [evE, bind_ok a1]
      exact a2
    rw [evT, bind_ok a5]; rfl
  show backF _ (evSs ⟨gl, sb, evC P gl sb fuel n, fuel⟩ [.ifs _ _ []] [some (false, W w)] s) = _
  rw [evSs, evS, sr_ok a4]; rfl
/-- check_words at one word or two -/
theorem c_cwords {jc jcs : Nat} (h : At P jc (cwordF g0 jx)) (hs : At P jcs (cwordsF jc jx)) (h0 : gl[g0]? = some (stD allN)) (n : Nat) {l : List Nat} (hl : Lt l) (l1 : 1 ≤ l.length) (l2 : l.length ≤ 2) (s : Sg) : evC P gl sb fuel (n + 2) jcs [(.sh, stD l)] s = .ok (.sh, .non) s := by
  rw [open_ hs _ _ rfl]
  have i1 : (1 : Int) ≤ (l.length : Int) := by omega
  have i2 : (l.length : Int) ≤ 2 := by omega
  have a1 : evS ⟨gl, sb, evC P gl sb fuel (n + 1), fuel⟩ (.ifs (.or_ (.not_ (.isi .tuple (.v 0))) (.not_ (.chn .le .le (.k (.int 1)) (.bc .len [(.v 0)]) (.k (.int 2))))) [(.rse jx [])] []) [some (false, .tup (l.map W)), none] s = .nx [some (false, .tup (l.map W)), none] s := by
    simp [evSs, evS, evE, evEs, evTs, evT, Out.bind, Out.sr, lift, SR.seq, ixV, truD, cmD, opD, plainD, eqD, setS, setV, keep, bcD, dat, ixD, optS, asgV, asgVs, asgD, asgDs, backF, Ev.lent, Ev.leaves, testsD, keeps, flatD, inD, itV, itW, isLo, isSeq, itD, owned, Ev.unown, mixed, isFr, Ev.settle, oneI, slD, isiD, augV, flatAt, noEx, i1, i2]
  have loop := forL_nx (asg := asgD (.nm 1)) (body := evSs ⟨gl, sb, evC P gl sb fuel (n + 1), fuel⟩ [(.ex (.call jc [(.v 1)]))]) (items := l.map W)
    (fun _ env s' => s' = s ∧ ∃ x, env = [some (false, .tup (l.map W)), x]) (env := [some (false, .tup (l.map W)), none]) (s := s) ⟨rfl, none, rfl⟩ (fun i d env s' hi hI => by
      obtain ⟨rfl, x, rfl⟩ := hI
      rw [List.getElem?_map, Option.map_eq_some_iff] at hi
      obtain ⟨w, hw, rfl⟩ := hi
      have hw := hl w (List.mem_of_getElem? hw)
      have e := c_cword (sb := sb) (fuel := fuel) h h0 n hw s'
      exact ⟨_, [some (false, .tup (l.map W)), some (false, W w)], s', rfl, .inl (by simp [evSs, evS, evE, evEs, evTs, evT, Out.bind, Out.sr, lift, SR.seq, ixV, truD, cmD, opD, plainD, eqD, setS, setV, keep, bcD, dat, ixD, optS, asgV, asgVs, asgD, asgDs, backF, Ev.lent, Ev.leaves, testsD, keeps, flatD, inD, itV, itW, isLo, isSeq, itD, owned, Ev.unown, mixed, isFr, Ev.settle, oneI, slD, isiD, augV, flatAt, noEx, e]), rfl, _, rfl⟩)
  obtain ⟨env', s', e, rfl, x, rfl⟩ := loop
  have a2 : evS ⟨gl, sb, evC P gl sb fuel (n + 1), fuel⟩ (.lk [0] (.for_ (.nm 1) .seq [(.v 0)] [(.ex (.call jc [(.v 1)]))])) [some (false, .tup (l.map W)), none] s' = .nx [some (false, .tup (l.map W)), x] s' := e
  show backF _ (evSs ⟨gl, sb, evC P gl sb fuel (n + 1), fuel⟩ [_, _] [some (false, .tup (l.map W)), none] s') = _
  rw [seq_one a1, evSs, a2]; rfl
/-- what goes, tested: all the words ahead of the last one are there -/
theorem all_has {c : Cc} {env : Env} {s : Sg} {a : E} {x : Nat} {l m : List Nat} (hl : Lt l) (hm : Lt m) (m3 : m.length ≤ 1000) {own : List Nat} {y : E} {k k' : Kd} {d0 : D} (h0 : d0 = .tup (l.map W) ∨ d0 = .lst (l.map W)) (ha : evE c a env s = .ok (k, .tup (m.map W)) s) (hy : ∀ i, i < 17 → evE c y ((wipeE env own).set x (some (false, W i))) s = .ok (k', d0) s) (hx : ∀ i, i < 17 → evE c (.v x) ((wipeE env own).set x (some (false, W i))) s = .ok (.sh, W i) s) : evE c (.bc .all [(.lc (.cmp .in_ (.v x) y) (.nm x) .seq [a] [] own)]) env s = .ok (.sh, .bl (m.all (has l))) s := by
  have w := lc_seq (c := c) (e := .cmp .in_ (.v x) y) (x := x) (own := own) (fun d => .bl (inD d (l.map W))) (.inl rfl) (by rw [List.length_map]; exact m3) ha (fun d hd => by
    obtain ⟨i, hi, rfl⟩ := List.mem_map.mp hd
    have hi := hm i hi
    rw [evE, bind_ok (hx i hi), bind_ok (hy i hi)]
    have f1 := flW hi
    have f2 := flsW hl
    rcases h0 with rfl | rfl
    · show lift ((if flatD (W i) && (l.map W).all flatD then some (inD (W i) (l.map W)) else _).map _) s = _
      rw [f1, f2]; rfl
    · show lift ((if flatD (W i) && (l.map W).all flatD then some (inD (W i) (l.map W)) else _).map _) s = _
      rw [f1, f2]; rfl)
  rw [bc1 w (all_map _ _), List.all_map]
  have q : (m.all ((fun a => inD a (l.map W)) ∘ W)) = m.all (has l) := by
    rw [Bool.eq_iff_iff, List.all_eq_true, List.all_eq_true]
    constructor
    · intro h i hi; rw [← inW (hm i hi) hl]; exact h i hi
    · intro h i hi
      show inD (W i) (l.map W) = true
      rw [inW (hm i hi) hl]; exact h i hi
  rw [q]
theorem way_turn {c : Cc} {l : List Nat} (hl : Lt l) {w : Nat} (hw : w < 17) {st : List Nat} (hg : Gst st) (s : Sg) : evSs c wayB [some (false, .lst (l.map W)), some (false, W w), some (false, stD st), none] s = if goes l w st = true then .rt (.sh, stD st) s else .nx [some (false, .lst (l.map W)), some (false, W w), some (false, stD st), none] s := by
  obtain ⟨h1, h2, h3, h4⟩ := hg.last
  have p1 := plW h1 60
  have p2 := plW hw 60
  have a1 : evE c (.cmp .eq (.ix (.v 2) (.neg (.k (.int 1)))) (.v 1)) [some (false, .lst (l.map W)), some (false, W w), some (false, stD st), none] s = .ok (.sh, .bl (Nat.beq (lastN st) w)) s := by
    have a0 : evE c (.ix (.v 2) (.neg (.k (.int 1)))) [some (false, .lst (l.map W)), some (false, W w), some (false, stD st), none] s = .ok (.sh, W (lastN st)) s := by
      show lift ((L2.atI (st.map W) (-1)).map _) s = _
      rw [h2]; rfl
    rw [evE, bind_ok a0]
    show lift ((if plainD 60 (W (lastN st)) && plainD 60 (W w) then some (eqD (W (lastN st)) (W w)) else none).map _) s = _
    rw [p1, p2, eqW h1 hw]; rfl
  have a2 := all_has (c := c) (env := [some (false, .lst (l.map W)), some (false, W w), some (false, stD st), none]) (s := s) (a := .sl (.v 2) [] [(.neg (.k (.int 1)))]) (x := 3) (own := [3]) (y := .v 0) (k := .sh) (k' := .sh) hl h4 (by
    have : st.dropLast.length ≤ st.length := by rw [List.length_dropLast]; omega
    rcases hg.2 with q | q <;> omega) (.inr rfl) (by
    show lift (slD (stD st) none (some (-1))) s = _
    show lift (some (Kd.sh, D.tup (cutD (st.map W) none (some (-1))))) s = _
    rw [h3]; rfl) (fun i _ => rfl) (fun i _ => rfl)
  have a3 : evT c (.and_ (.cmp .eq (.ix (.v 2) (.neg (.k (.int 1)))) (.v 1)) (.bc .all [(.lc (.cmp .in_ (.v 3) (.v 0)) (.nm 3) .seq [(.sl (.v 2) [] [(.neg (.k (.int 1)))])] [] [3])])) [some (false, .lst (l.map W)), some (false, W w), some (false, stD st), none] s = .ok (goes l w st) s := by
    unfold goes
    cases hb : Nat.beq (lastN st) w with
    | false =>
      rw [hb] at a1
      rw [evT, evE, bind_ok a1]; rfl
    | true =>
      rw [hb] at a1
      have a5 : evE c (.and_ (.cmp .eq (.ix (.v 2) (.neg (.k (.int 1)))) (.v 1)) (.bc .all [(.lc (.cmp .in_ (.v 3) (.v 0)) (.nm 3) .seq [(.sl (.v 2) [] [(.neg (.k (.int 1)))])] [] [3])])) [some (false, .lst (l.map W)), some (false, W w), some (false, stD st), none] s = .ok (.sh, .bl (st.dropLast.all (has l))) s := by
        rw [evE, bind_ok a1]
        exact a2
      rw [evT, bind_ok a5]; rfl
  rw [wayB, evSs, evS, sr_ok a3]
  cases goes l w st <;> rfl
theorem way_loop {c : Cc} {l : List Nat} (hl : Lt l) {w : Nat} (hw : w < 17) (s : Sg) : ∀ (sts : List (List Nat)), (∀ st ∈ sts, Gst st) → ∀ x2, ∃ x2', forL (asgD (.nm 2)) (evSs c wayB) (sts.map stD) [some (false, .lst (l.map W)), some (false, W w), x2, none] s = match sts.find? (goes l w) with
    | some st => .rt (.sh, stD st) s
    | none => .nx [some (false, .lst (l.map W)), some (false, W w), x2', none] s
  | [], _, x2 => ⟨x2, rfl⟩
  | st :: r, h, x2 => by
    obtain ⟨x2', e⟩ := way_loop hl hw s r (fun t ht => h t (List.mem_cons_of_mem _ ht)) (some (false, stD st))
    refine ⟨x2', ?_⟩
    have t := way_turn (c := c) hl hw (h st (List.mem_cons_self ..)) s
    rw [List.map_cons, forL]
    show (match evSs c wayB [some (false, .lst (l.map W)), some (false, W w), some (false, stD st), none] s with | .nx e2 s2 => _ | .ct e2 s2 => _ | .bk e2 s2 => _ | .rt x s2 => _ | .ex x e2 s2 => _ | .stk => _) = _
    rw [t, List.find?_cons]
    cases hb : goes l w st
    · exact e
    · rfl
/-- ways_to -/
theorem c_way {jw : Nat} (h : At P jw (wayF g1 g2)) (h1 : gl[g1]? = some (.tup (arN.map stD))) (h2 : gl[g2]? = some (.tup (joN.map stD))) (n : Nat) {k : Kd} {l : List Nat} (hl : Lt l) {w : Nat} (hw : w < 17) (s : Sg) : evC P gl sb fuel (n + 1) jw [(k, .lst (l.map W)), (.sh, W w)] s = .ok (.sh, wayD (way l w)) s := by
  rw [open_ h _ _ rfl]
  obtain ⟨x2, e⟩ := way_loop (c := ⟨gl, sb, evC P gl sb fuel n, fuel⟩) hl hw s steps steps_gd none
  have a1 : evEs ⟨gl, sb, evC P gl sb fuel n, fuel⟩ [(.op .add (.g g1) (.g g2))] [some (false, .lst (l.map W)), some (false, W w), none, none] s = .ok [(.sh, .tup (steps.map stD))] s := by
    have z : (arN.map stD).length + (joN.map stD).length ≤ sizeLine := sz1000 (by decide)
    have q : steps.map stD = arN.map stD ++ joN.map stD := List.map_append
    rw [q]
    simp only [evEs, evE, h1, h2, lift, Option.map_some, Out.bind, opD, if_pos z]
  have a2 : evS ⟨gl, sb, evC P gl sb fuel n, fuel⟩ (.for_ (.nm 2) .seq [(.op .add (.g g1) (.g g2))] wayB) [some (false, .lst (l.map W)), some (false, W w), none, none] s = match way l w with
    | some st => .rt (.sh, stD st) s
    | none => .nx [some (false, .lst (l.map W)), some (false, W w), x2, none] s := by
    rw [evS, sr_ok a1]
    exact e
  show backF _ (evSs ⟨gl, sb, evC P gl sb fuel n, fuel⟩ [_, _] [some (false, .lst (l.map W)), some (false, W w), none, none] s) = _
  rw [evSs, a2]
  cases hf : way l w with
  | none =>
    cases k <;> rfl
  | some st =>
    have hg := steps_gd st (List.mem_of_find?_eq_some hf)
    have q : lf (stD st) = true := lfsW hg.1
    show lift (Ev.lent _ (Kd.sh, stD st)) s = _
    unfold Ev.lent
    show lift (if _ then (if lf (stD st) then _ else _) else _) s = _
    rw [q]
    cases k <;> rfl
end
end Ev
set_option Elab.async false
set_option linter.all false
set_option maxRecDepth 100000
set_option maxHeartbeats 400000
namespace Ev
open PySem PySem.Spec PyProof.Rows L2
/-! ### all that arrows lead to -/
theorem whl_nx {tst : Env → Sg → Out Bool} {body : Env → Sg → SR} {n : Nat} {env e2 : Env} {s s1 s2 : Sg} (ht : tst env s = .ok true s1) (hb : body env s1 = .nx e2 s2) : whlL tst body (n + 1) env s = whlL tst body n e2 s2 := by
  rw [whlL, sr_ok ht, if_pos rfl, hb]
theorem whl_end {tst : Env → Sg → Out Bool} {body : Env → Sg → SR} {n : Nat} {env : Env} {s s1 : Sg} (ht : tst env s = .ok false s1) : whlL tst body (n + 1) env s = .nx env s1 := by
  rw [whlL, sr_ok ht]; rfl
theorem at0 {α : Type} (a : α) (l : List α) : L2.atI (a :: l) 0 = some a := by
  unfold L2.atI ixN
  rw [if_pos (by decide), if_pos (by rw [List.length_cons]; omega)]; rfl
structure De where
  f : List Nat
  t : List (List Nat)
  m : Bool
def De.step (e : De) (w : Nat) : De := if has e.f w then e else match way e.f w with
  | some st => ⟨e.f ++ [w], e.t ++ [st], true⟩
  | none => e
def De.rnd (e : De) : De := allN.foldl De.step ⟨e.f, e.t, false⟩
/-- rounds until nothing is new -/
def De.run : Nat → De → Option De
  | 0, _ => none
  | k + 1, e => if e.rnd.m then De.run k e.rnd else some e.rnd
def De.ok (e : De) : Prop := Lt e.f ∧ ∀ st ∈ e.t, Gst st
theorem De.ok_step {e : De} (h : e.ok) {w : Nat} (hw : w < 17) : (e.step w).ok ∧ (e.step w).f.length ≤ e.f.length + 1 ∧ (e.step w).t.length ≤ e.t.length + 1 := by
  unfold De.step
  split
  · exact ⟨h, Nat.le_succ _, Nat.le_succ _⟩
  · split
    · rename_i st hs
      refine ⟨⟨fun i hi => ?_, fun t ht => ?_⟩, by simp, by simp⟩
      · rcases List.mem_append.mp hi with q | q
        · exact h.1 i q
        · rw [List.mem_singleton.mp q]; exact hw
      · rcases List.mem_append.mp ht with q | q
        · exact h.2 t q
        · rw [List.mem_singleton.mp q]; exact steps_gd st (List.mem_of_find?_eq_some hs)
    · exact ⟨h, Nat.le_succ _, Nat.le_succ _⟩
theorem De.ok_fold : ∀ (ws : List Nat) {e : De}, e.ok → Lt ws → (ws.foldl De.step e).ok ∧ (ws.foldl De.step e).f.length ≤ e.f.length + ws.length ∧ (ws.foldl De.step e).t.length ≤ e.t.length + ws.length
  | [], e, h, _ => ⟨h, Nat.le_refl _, Nat.le_refl _⟩
  | w :: r, e, h, hw => by
    obtain ⟨a, b, c⟩ := De.ok_step h (hw w (List.mem_cons_self ..))
    obtain ⟨a2, b2, c2⟩ := De.ok_fold r a fun j hj => hw j (List.mem_cons_of_mem _ hj)
    rw [List.foldl_cons, List.length_cons]
    exact ⟨a2, by omega, by omega⟩
theorem ltAll : Lt allN := fun i hi => List.mem_range.mp hi
theorem De.ok_rnd {e : De} (h : e.ok) : e.rnd.ok ∧ e.rnd.f.length ≤ e.f.length + 17 ∧ e.rnd.t.length ≤ e.t.length + 17 := De.ok_fold allN (e := ⟨e.f, e.t, false⟩) h ltAll
section
variable {P : List Fn} {gl : List D} {sb : List (Nat × Nat)} {fuel : Nat} {g0 g1 g2 g3 jx : Nat}
abbrev XD := Option (Bool × D)
def envD (l : List Nat) (e : De) (x4 x5 : XD) : Env := [some (false, stD l), some (true, .lst (e.f.map W)), some (true, .lst (e.t.map stD)), some (false, .bl e.m), x4, x5]
theorem der_turn {jw : Nat} (h : At P jw (wayF g1 g2)) (h1 : gl[g1]? = some (.tup (arN.map stD))) (h2 : gl[g2]? = some (.tup (joN.map stD))) (n : Nat) (l : List Nat) {e : De} (he : e.ok) (f1 : e.f.length < 1000) (f2 : e.t.length < 1000) {w : Nat} (hw : w < 17) (x5 : XD) (s : Sg) : ∃ y, evSs ⟨gl, sb, evC P gl sb fuel (n + 1), fuel⟩ (derB jw) (envD l e (some (false, W w)) x5) s = .nx (envD l (e.step w) (some (false, W w)) y) s := by
  refine ⟨some (false, wayD (way e.f w)), ?_⟩
  have w0 : evE ⟨gl, sb, evC P gl sb fuel (n + 1), fuel⟩ (.call jw [(.v 1), (.v 4)]) (envD l e (some (false, W w)) x5) s = .ok (.sh, wayD (way e.f w)) s := c_way (sb := sb) (fuel := fuel) h h1 h2 n (k := .lo) he.1 hw s
  have a1 : evS ⟨gl, sb, evC P gl sb fuel (n + 1), fuel⟩ (.asg (.nm 5) (.call jw [(.v 1), (.v 4)])) (envD l e (some (false, W w)) x5) s = .nx (envD l e (some (false, W w)) (some (false, wayD (way e.f w)))) s := by
    rw [evS, sr_ok w0]; rfl
  have t1 : evE ⟨gl, sb, evC P gl sb fuel (n + 1), fuel⟩ (.cmp .notin (.v 4) (.v 1)) (envD l e (some (false, W w)) (some (false, wayD (way e.f w)))) s = .ok (.sh, .bl (!has e.f w)) s := by
    show lift ((if flatD (W w) && (e.f.map W).all flatD then some (!inD (W w) (e.f.map W)) else _).map _) s = _
    rw [flW hw, flsW he.1, inW hw he.1]; rfl
  have z1 : (e.f.map W).length < sizeLine := Nat.lt_of_lt_of_le (by rw [List.length_map]; exact f1) (sz1000 (Nat.le_refl _))
  have z2 : (e.t.map stD).length < sizeLine := Nat.lt_of_lt_of_le (by rw [List.length_map]; exact f2) (sz1000 (Nat.le_refl _))
  rw [derB, seq_one a1]
  unfold De.step
  cases hb : has e.f w with
  | true =>
    rw [hb] at t1
    have t2 : evT ⟨gl, sb, evC P gl sb fuel (n + 1), fuel⟩ (.and_ (.cmp .notin (.v 4) (.v 1)) (.cmp .isnt (.v 5) (.k .non))) (envD l e (some (false, W w)) (some (false, wayD (way e.f w)))) s = .ok false s := by
      rw [evT, evE, bind_ok t1]; rfl
    rw [evSs, evS, sr_ok t2]; rfl
  | false =>
    rw [hb] at t1
    have t3 : evE ⟨gl, sb, evC P gl sb fuel (n + 1), fuel⟩ (.and_ (.cmp .notin (.v 4) (.v 1)) (.cmp .isnt (.v 5) (.k .non))) (envD l e (some (false, W w)) (some (false, wayD (way e.f w)))) s = .ok (.sh, .bl (way e.f w).isSome) s := by
      rw [evE, bind_ok t1]
      cases way e.f w <;> rfl
    have t2 : evT ⟨gl, sb, evC P gl sb fuel (n + 1), fuel⟩ (.and_ (.cmp .notin (.v 4) (.v 1)) (.cmp .isnt (.v 5) (.k .non))) (envD l e (some (false, W w)) (some (false, wayD (way e.f w)))) s = .ok (way e.f w).isSome s := by
      rw [evT, bind_ok t3]; rfl
    rw [evSs, evS, sr_ok t2]
    cases hf : way e.f w with
    | none => rfl
    | some st =>
      show (evSs ⟨gl, sb, evC P gl sb fuel (n + 1), fuel⟩ [_, _, _] _ s).seq _ = _
      have b1 : evS ⟨gl, sb, evC P gl sb fuel (n + 1), fuel⟩ (.lk [4] (.app 1 (.v 4))) (envD l e (some (false, W w)) (some (false, wayD (some st)))) s = .nx (envD l ⟨e.f ++ [w], e.t, e.m⟩ (some (false, W w)) (some (false, wayD (some st)))) s := by
        show (if (e.f.map W).length < sizeLine then _ else _) = _
        rw [if_pos z1]
        simp only [envD, List.map_append]; rfl
      have b2 : evS ⟨gl, sb, evC P gl sb fuel (n + 1), fuel⟩ (.lk [5] (.app 2 (.v 5))) (envD l ⟨e.f ++ [w], e.t, e.m⟩ (some (false, W w)) (some (false, wayD (some st)))) s = .nx (envD l ⟨e.f ++ [w], e.t ++ [st], e.m⟩ (some (false, W w)) (some (false, wayD (some st)))) s := by
        show (if (e.t.map stD).length < sizeLine then _ else _) = _
        rw [if_pos z2]
        simp only [envD, List.map_append]; rfl
      rw [seq_one b1, seq_one b2]; rfl
theorem der_fold {jw : Nat} (h : At P jw (wayF g1 g2)) (h1 : gl[g1]? = some (.tup (arN.map stD))) (h2 : gl[g2]? = some (.tup (joN.map stD))) (n : Nat) (l : List Nat) (s : Sg) : ∀ (ws : List Nat), Lt ws → ∀ {e : De}, e.ok → e.f.length + ws.length ≤ 1000 → e.t.length + ws.length ≤ 1000 → ∀ x4 x5, ∃ y4 y5, forL (asgD (.nm 4)) (evSs ⟨gl, sb, evC P gl sb fuel (n + 1), fuel⟩ (derB jw)) (ws.map W) (envD l e x4 x5) s = .nx (envD l (ws.foldl De.step e) y4 y5) s
  | [], _, e, _, _, _, x4, x5 => ⟨x4, x5, rfl⟩
  | w :: r, hw, e, he, f1, f2, x4, x5 => by
    rw [List.length_cons] at f1 f2
    have hw0 := hw w (List.mem_cons_self ..)
    obtain ⟨y, e1⟩ := der_turn (sb := sb) (fuel := fuel) h h1 h2 n l he (by omega) (by omega) hw0 x5 s
    obtain ⟨a, b, c⟩ := De.ok_step he hw0
    obtain ⟨y4, y5, e2⟩ := der_fold h h1 h2 n l s r (fun j hj => hw j (List.mem_cons_of_mem _ hj)) a (by omega) (by omega) (some (false, W w)) y
    refine ⟨y4, y5, ?_⟩
    rw [List.map_cons, forL]
    show (match evSs ⟨gl, sb, evC P gl sb fuel (n + 1), fuel⟩ (derB jw) (envD l e (some (false, W w)) x5) s with | .nx e2 s2 => _ | .ct e2 s2 => _ | .bk e2 s2 => _ | .rt x s2 => _ | .ex x e2 s2 => _ | .stk => _) = _
    rw [e1]
    exact e2
theorem der_run {jw : Nat} (h : At P jw (wayF g1 g2)) (h0 : gl[g0]? = some (stD allN)) (h1 : gl[g1]? = some (.tup (arN.map stD))) (h2 : gl[g2]? = some (.tup (joN.map stD))) (n : Nat) (l : List Nat) (s : Sg) (e' : De) : ∀ (k : Nat) (fu : Nat) (e : De) (x4 x5 : XD), k < fu → e.ok → e.f.length + 17 * k ≤ 1000 → e.t.length + 17 * k ≤ 1000 → e.m = true → e.run k = some e' → ∃ y4 y5, e'.m = false ∧ e'.ok ∧ whlL (evT ⟨gl, sb, evC P gl sb fuel (n + 1), fuel⟩ (.v 3)) (evSs ⟨gl, sb, evC P gl sb fuel (n + 1), fuel⟩ [(.asg (.nm 3) (.k (.bl false))), derL g0 jw]) fu (envD l e x4 x5) s = .nx (envD l e' y4 y5) s := by
  intro k
  induction k with
  | zero => intro fu e x4 x5 _ _ _ _ _ hr; cases hr
  | succ k ih =>
    intro fu e x4 x5 hf he f1 f2 hm hr
    obtain ⟨fu, rfl⟩ : ∃ f', fu = f' + 2 := ⟨fu - 2, by omega⟩
    have t0 : evT ⟨gl, sb, evC P gl sb fuel (n + 1), fuel⟩ (.v 3) (envD l e x4 x5) s = .ok true s := by
      show Out.ok e.m s = _
      rw [hm]
    have len : allN.length = 17 := rfl
    obtain ⟨y4, y5, e1⟩ := der_fold (sb := sb) (fuel := fuel) h h1 h2 n l s allN ltAll (e := ⟨e.f, e.t, false⟩) he (by rw [len]; show e.f.length + 17 ≤ 1000; omega) (by rw [len]; show e.t.length + 17 ≤ 1000; omega) x4 x5
    have a1 : evS ⟨gl, sb, evC P gl sb fuel (n + 1), fuel⟩ (derL g0 jw) (envD l ⟨e.f, e.t, false⟩ x4 x5) s = .nx (envD l e.rnd y4 y5) s := by
      have a2 : evEs ⟨gl, sb, evC P gl sb fuel (n + 1), fuel⟩ [(.g g0)] (envD l ⟨e.f, e.t, false⟩ x4 x5) s = .ok [(.sh, stD allN)] s := by
        simp only [evEs, evE, h0, lift, Option.map_some, Out.bind]
      rw [derL, evS, sr_ok a2]
      exact e1
    have b1 : evSs ⟨gl, sb, evC P gl sb fuel (n + 1), fuel⟩ [(.asg (.nm 3) (.k (.bl false))), derL g0 jw] (envD l e x4 x5) s = .nx (envD l e.rnd y4 y5) s := by
      have a0 : evS ⟨gl, sb, evC P gl sb fuel (n + 1), fuel⟩ (.asg (.nm 3) (.k (.bl false))) (envD l e x4 x5) s = .nx (envD l ⟨e.f, e.t, false⟩ x4 x5) s := rfl
      rw [seq_one a0, seq_one a1]; rfl
    obtain ⟨q1, q2, q3⟩ := De.ok_rnd he
    rw [whl_nx t0 b1]
    unfold De.run at hr
    cases hb : e.rnd.m with
    | true =>
      rw [hb, if_pos rfl] at hr
      exact ih (fu + 1) e.rnd y4 y5 (by omega) q1 (by omega) (by omega) hb hr
    | false =>
      rw [hb] at hr
      have hr' : e.rnd = e' := Option.some.inj hr
      subst hr'
      refine ⟨y4, y5, hb, q1, ?_⟩
      have t1 : evT ⟨gl, sb, evC P gl sb fuel (n + 1), fuel⟩ (.v 3) (envD l e.rnd y4 y5) s = .ok false s := by
        show Out.ok e.rnd.m s = _
        rw [hb]
      rw [whl_end t1]
/-- all that comes of some words -/
def der (l : List Nat) : Option De := De.run 20 ⟨l, [], true⟩
/-- derived -/
theorem c_der {jw jd : Nat} (h : At P jw (wayF g1 g2)) (hd : At P jd (derF g0 jw)) (h0 : gl[g0]? = some (stD allN)) (h1 : gl[g1]? = some (.tup (arN.map stD))) (h2 : gl[g2]? = some (.tup (joN.map stD))) (hfu : 20 < fuel) (n : Nat) {l : List Nat} (hl : Lt l) (l2 : l.length ≤ 2) {e : De} (hr : der l = some e) (s : Sg) : e.ok ∧ evC P gl sb fuel (n + 2) jd [(.sh, stD l)] s = .ok (.sh, .tup [.lst (e.f.map W), .lst (e.t.map stD)]) s := by
  obtain ⟨y4, y5, q1, q2, q3⟩ := der_run (sb := sb) (fuel := fuel) h h0 h1 h2 n l s e 20 fuel ⟨l, [], true⟩ none none hfu ⟨hl, fun _ z => nomatch z⟩ (by show l.length + 340 ≤ 1000; omega) (by show (0 : Nat) + 340 ≤ 1000; decide) rfl hr
  refine ⟨q2, ?_⟩
  rw [open_ hd _ _ rfl]
  have a1 : evS ⟨gl, sb, evC P gl sb fuel (n + 1), fuel⟩ (.par [(.nm 1), (.nm 2), (.nm 3)] [(.bc .list [(.v 0)]), (.lst []), (.k (.bl true))]) [some (false, stD l), none, none, none, none, none] s = .nx (envD l ⟨l, [], true⟩ none none) s := by
    simp [evSs, evS, evE, evEs, evTs, evT, Out.bind, Out.sr, lift, SR.seq, ixV, truD, cmD, opD, plainD, eqD, setS, setV, keep, bcD, dat, ixD, optS, asgV, asgVs, asgD, asgDs, backF, Ev.lent, Ev.leaves, testsD, keeps, flatD, inD, itV, itW, isLo, isSeq, itD, owned, Ev.unown, mixed, isFr, Ev.settle, oneI, slD, isiD, augV, flatAt, noEx, envD, stD]
  have a2 : evS ⟨gl, sb, evC P gl sb fuel (n + 1), fuel⟩ (.whl (.v 3) [(.asg (.nm 3) (.k (.bl false))), derL g0 jw]) (envD l ⟨l, [], true⟩ none none) s = .nx (envD l e y4 y5) s := q3
  show backF _ (evSs ⟨gl, sb, evC P gl sb fuel (n + 1), fuel⟩ [_, _, _] [some (false, stD l), none, none, none, none, none] s) = _
  rw [seq_one a1, seq_one a2]; rfl
/-- bar_among -/
def barOf (f : List Nat) : Option (List Nat) := (brN.filter fun b => b.all (has f)).head?
theorem lc_seqt {c : Cc} {e a t : E} {x : Nat} {env : Env} {s : Sg} {l : List D} {own : List Nat} {k : Kd} {d0 : D} (f : D → D) (b : D → Bool) (hd : d0 = .tup l ∨ d0 = .lst l) (hm : l.length ≤ 1000) (ha : evE c a env s = .ok (k, d0) s) (ht : ∀ d, d ∈ l → evE c t ((wipeE env own).set x (some (false, d))) s = .ok (.sh, .bl (b d)) s) (h : ∀ d, d ∈ l → b d = true → evE c e ((wipeE env own).set x (some (false, d))) s = .ok (.sh, f d) s) : evE c (.lc e (.nm x) .seq [a] [t] own) env s = .ok (.fr, .lst ((l.filter b).map f)) s := by
  have q : l.flatMap (fun d => if b d = true then [f d] else []) = (l.filter b).map f := by
    clear hd hm ha ht h
    induction l with
    | nil => rfl
    | cons k r ih =>
      rw [List.flatMap_cons, ih, List.filter_cons]
      cases b k <;> rfl
  rw [← q]
  refine lc_pure (s1 := s) (xs := [(k, d0)]) (items := l) _ (by rw [evEs, bind_ok ha]; rfl) (by rcases hd with rfl | rfl <;> (cases k <;> rfl)) (fun d hd => ?_) (by
    rw [q, List.length_map]
    exact sz1000 (Nat.le_trans (List.length_filter_le _ _) hm))
  show ((evE c t _ s).bind _).bind _ = _
  rw [bind_ok (ht d hd)]
  show (Out.ok (b d) s).bind _ = _
  rw [bind_ok rfl]
  show _ = Out.ok (if b d = true then [f d] else []) s
  cases hb : b d with
  | false => rfl
  | true =>
    show (evE c e _ s).bind _ = _
    rw [bind_ok (h d hd hb)]; rfl
theorem c_bar {jb : Nat} (hb : At P jb (barF g3)) (h3 : gl[g3]? = some (.tup (brN.map stD))) (n : Nat) {k : Kd} {f : List Nat} (hf : Lt f) (s : Sg) : evC P gl sb fuel (n + 1) jb [(k, .lst (f.map W))] s = .ok (.sh, wayD (barOf f)) s := by
  rw [open_ hb _ _ rfl]
  have w0 := lc_seqt (c := ⟨gl, sb, evC P gl sb fuel n, fuel⟩) (e := .v 2) (a := .g g3) (t := (.and_ (.cmp .in_ (.ix (.v 2) (.k (.int 0))) (.v 0)) (.cmp .in_ (.ix (.v 2) (.k (.int 1))) (.v 0)))) (x := 2) (env := [some (false, .lst (f.map W)), none, none]) (s := s) (own := [2]) (k := .sh) (fun d => d) (fun d => match d with | .tup [a, b] => inD a (f.map W) && inD b (f.map W) | _ => false) (l := brN.map stD) (.inl rfl) (by decide) (by rw [evE, h3]; rfl) (fun d hd => by
    have f2 := flsW hf
    have go : ∀ i j : Nat, i < 17 → j < 17 → evE ⟨gl, sb, evC P gl sb fuel n, fuel⟩ (.and_ (.cmp .in_ (.ix (.v 2) (.k (.int 0))) (.v 0)) (.cmp .in_ (.ix (.v 2) (.k (.int 1))) (.v 0))) [some (false, .lst (f.map W)), none, some (false, .tup [W i, W j])] s = .ok (.sh, .bl (inD (W i) (f.map W) && inD (W j) (f.map W))) s := fun i j hi hj => by
      have e1 : evE ⟨gl, sb, evC P gl sb fuel n, fuel⟩ (.cmp .in_ (.ix (.v 2) (.k (.int 0))) (.v 0)) [some (false, .lst (f.map W)), none, some (false, .tup [W i, W j])] s = .ok (.sh, .bl (inD (W i) (f.map W))) s := by
        show lift ((if flatD (W i) && (f.map W).all flatD then some (inD (W i) (f.map W)) else _).map _) s = _
        rw [flW hi, f2]; rfl
      have e2 : evE ⟨gl, sb, evC P gl sb fuel n, fuel⟩ (.cmp .in_ (.ix (.v 2) (.k (.int 1))) (.v 0)) [some (false, .lst (f.map W)), none, some (false, .tup [W i, W j])] s = .ok (.sh, .bl (inD (W j) (f.map W))) s := by
        show lift ((if flatD (W j) && (f.map W).all flatD then some (inD (W j) (f.map W)) else _).map _) s = _
        rw [flW hj, f2]; rfl
      rw [evE, bind_ok e1]
      cases inD (W i) (f.map W)
      · rfl
      · exact e2
    obtain ⟨b, hb, rfl⟩ := List.mem_map.mp hd
    simp only [brN, List.mem_cons, List.not_mem_nil, or_false] at hb
    rcases hb with rfl | rfl
    · exact go 14 11 (by decide) (by decide)
    · exact go 14 13 (by decide) (by decide)) (fun d hd _ => rfl)
  have q : ((brN.map stD).filter fun d => match d with | .tup [a, b] => inD a (f.map W) && inD b (f.map W) | _ => false).map (fun d => d) = (brN.filter fun b => b.all (has f)).map stD := by
    have e1 := inW (i := 14) (by decide) hf
    have e2 := inW (i := 11) (by decide) hf
    have e3 := inW (i := 13) (by decide) hf
    show (([D.tup [W 14, W 11], D.tup [W 14, W 13]].filter _)).map _ = _
    rw [List.map_id']
    simp only [List.filter_cons, List.filter_nil, e1, e2, e3, brN, List.all_cons, List.all_nil, Bool.and_true]
    cases has f 14 <;> cases has f 11 <;> cases has f 13 <;> rfl
  rw [q] at w0
  have a1 : evS ⟨gl, sb, evC P gl sb fuel n, fuel⟩ (.asg (.nm 1) (.lc (.v 2) (.nm 2) .seq [(.g g3)] [(.and_ (.cmp .in_ (.ix (.v 2) (.k (.int 0))) (.v 0)) (.cmp .in_ (.ix (.v 2) (.k (.int 1))) (.v 0)))] [2])) [some (false, .lst (f.map W)), none, none] s = .nx [some (false, .lst (f.map W)), some (true, .lst ((brN.filter fun b => b.all (has f)).map stD)), none] s := by
    rw [evS, sr_ok w0]; rfl
  show backF _ (evSs ⟨gl, sb, evC P gl sb fuel n, fuel⟩ [_, _] [some (false, .lst (f.map W)), none, none] s) = _
  rw [seq_one a1]
  have sub : ∀ b ∈ (brN.filter fun b => b.all (has f)), Gst b := fun b hb => by
    have := (List.mem_filter.mp hb).1
    simp only [brN, List.mem_cons, List.not_mem_nil, or_false] at this
    rcases this with rfl | rfl
    · exact ⟨fun i hi => by simp at hi; omega, .inl rfl⟩
    · exact ⟨fun i hi => by simp at hi; omega, .inl rfl⟩
  unfold barOf
  cases hb : (brN.filter fun b => b.all (has f)) with
  | nil => cases k <;> rfl
  | cons b r =>
    have hg := sub b (by rw [hb]; exact List.mem_cons_self ..)
    have q : lf (stD b) = true := lfsW hg.1
    have t0 : decide ((0 : Int) < ((((b :: r).map stD).length : Nat) : Int)) = true := by
      rw [List.map_cons, List.length_cons]; simp
    have a2 : evE ⟨gl, sb, evC P gl sb fuel n, fuel⟩ (.ite (.cmp .gt (.bc .len [(.v 1)]) (.k (.int 0))) (.ix (.v 1) (.k (.int 0))) (.k .non)) [some (false, .lst (f.map W)), some (true, .lst ((b :: r).map stD)), none] s = .ok (.sh, stD b) s := by
      have a3 : evE ⟨gl, sb, evC P gl sb fuel n, fuel⟩ (.cmp .gt (.bc .len [(.v 1)]) (.k (.int 0))) [some (false, .lst (f.map W)), some (true, .lst ((b :: r).map stD)), none] s = .ok (.sh, .bl true) s := by
        show Out.ok (Kd.sh, D.bl (decide ((0 : Int) < ((((b :: r).map stD).length : Nat) : Int)))) s = _
        rw [t0]
      rw [evE, bind_ok a3]
      show lift ((L2.atI ((b :: r).map stD) 0).map _) s = _
      rw [List.map_cons, at0]; rfl
    rw [evSs, evS, sr_ok a2]
    show lift (Ev.lent _ (Kd.sh, stD b)) s = _
    unfold Ev.lent
    show lift (if _ then (if lf (stD b) then _ else _) else _) s = _
    rw [q]
    cases k <;> rfl
/-- all_forced -/
def forced (f : List Nat) : List Nat := match barOf f with
  | some _ => allN
  | none => allN.filter (has f)
theorem forced_lt (f : List Nat) : Lt (forced f) := by
  unfold forced
  split
  · exact ltAll
  · exact fun i hi => ltAll i (List.mem_filter.mp hi).1
end
/-- the numbers of the defs about words -/
structure Wl (P : List Fn) (gl : List D) (jc jcs jw jd jb jf jt jx g0 g1 g2 g3 : Nat) : Prop where
  hc : At P jc (cwordF g0 jx)
  hcs : At P jcs (cwordsF jc jx)
  hw : At P jw (wayF g1 g2)
  hd : At P jd (derF g0 jw)
  hb : At P jb (barF g3)
  hf : At P jf (forcF g0 jcs jd jb)
  ht : At P jt (doesF jc jf)
  h0 : gl[g0]? = some (stD allN)
  h1 : gl[g1]? = some (.tup (arN.map stD))
  h2 : gl[g2]? = some (.tup (joN.map stD))
  h3 : gl[g3]? = some (.tup (brN.map stD))
section
variable {P : List Fn} {gl : List D} {sb : List (Nat × Nat)} {fuel : Nat} {jc jcs jw jd jb jf jt jx g0 g1 g2 g3 : Nat}
theorem c_forced (I : Wl P gl jc jcs jw jd jb jf jt jx g0 g1 g2 g3) (hfu : 20 < fuel) (n : Nat) {l : List Nat} (hl : Lt l) (l1 : 1 ≤ l.length) (l2 : l.length ≤ 2) {e : De} (hr : der l = some e) (s : Sg) : evC P gl sb fuel (n + 3) jf [(.sh, stD l)] s = .ok (.sh, stD (forced e.f)) s := by
  rw [open_ I.hf _ _ rfl]
  have w1 := c_cwords (sb := sb) (fuel := fuel) I.hc I.hcs I.h0 n hl l1 l2 s
  obtain ⟨ok, w2⟩ := c_der (sb := sb) (fuel := fuel) I.hw I.hd I.h0 I.h1 I.h2 hfu n hl l2 hr s
  have w3 := c_bar (sb := sb) (fuel := fuel) I.hb I.h3 (n + 1) (k := .sh) ok.1 s
  let c : Cc := ⟨gl, sb, evC P gl sb fuel (n + 2), fuel⟩
  have a1 : evS c (.ex (.call jcs [(.v 0)])) [some (false, stD l), none, none] s = .nx [some (false, stD l), none, none] s := by
    have b : evE c (.call jcs [(.v 0)]) [some (false, stD l), none, none] s = .ok (.sh, .non) s := w1
    rw [evS, sr_ok b]
  have a2 : evS c (.asg (.nm 1) (.ix (.call jd [(.v 0)]) (.k (.int 0)))) [some (false, stD l), none, none] s = .nx [some (false, stD l), some (false, .lst (e.f.map W)), none] s := by
    have b : evE c (.call jd [(.v 0)]) [some (false, stD l), none, none] s = .ok (.sh, .tup [.lst (e.f.map W), .lst (e.t.map stD)]) s := w2
    rw [evS, evE, bind_ok b]; rfl
  have b3 : evE c (.call jb [(.v 1)]) [some (false, stD l), some (false, .lst (e.f.map W)), none] s = .ok (.sh, wayD (barOf e.f)) s := w3
  have t3 : evT c (.cmp .isnt (.call jb [(.v 1)]) (.k .non)) [some (false, stD l), some (false, .lst (e.f.map W)), none] s = .ok (barOf e.f).isSome s := by
    rw [evT, evE, bind_ok b3]
    cases barOf e.f <;> rfl
  have g : evE c (.g g0) [some (false, stD l), some (false, .lst (e.f.map W)), none] s = .ok (.sh, stD allN) s := by
    rw [evE, I.h0]; rfl
  show backF _ (evSs c [_, _, _, _] [some (false, stD l), none, none] s) = _
  rw [seq_one a1, seq_one a2]
  unfold forced
  cases hb : barOf e.f with
  | some b =>
    rw [hb] at t3
    have a3 : evS c (.ifs (.cmp .isnt (.call jb [(.v 1)]) (.k .non)) [(.ret (.g g0))] []) [some (false, stD l), some (false, .lst (e.f.map W)), none] s = .rt (.sh, stD allN) s := by
      rw [evS, sr_ok t3]
      show evSs c [.ret (.g g0)] _ s = _
      rw [evSs, evS, sr_ok g]; rfl
    rw [evSs, a3]; rfl
  | none =>
    rw [hb] at t3
    have a3 : evS c (.ifs (.cmp .isnt (.call jb [(.v 1)]) (.k .non)) [(.ret (.g g0))] []) [some (false, stD l), some (false, .lst (e.f.map W)), none] s = .nx [some (false, stD l), some (false, .lst (e.f.map W)), none] s := by
      rw [evS, sr_ok t3]; rfl
    have w4 := lc_seqt (c := c) (e := .v 2) (a := .g g0) (t := (.cmp .in_ (.v 2) (.v 1))) (x := 2) (env := [some (false, stD l), some (false, .lst (e.f.map W)), none]) (s := s) (own := [2]) (k := .sh) (d0 := stD allN) (l := allN.map W) (fun d => d) (fun d => inD d (e.f.map W)) (.inl rfl) (by decide) g (fun d hd => by
      obtain ⟨i, hi, rfl⟩ := List.mem_map.mp hd
      show lift ((if flatD (W i) && (e.f.map W).all flatD then some (inD (W i) (e.f.map W)) else _).map _) s = _
      rw [flW (ltAll i hi), flsW ok.1]; rfl) (fun d hd _ => rfl)
    have q : (((allN.map W).filter fun d => inD d (e.f.map W)).map fun d => d) = (allN.filter (has e.f)).map W := by
      rw [List.map_id', List.filter_map]
      exact congrArg (List.map W) (List.filter_congr fun i hi => inW (ltAll i hi) ok.1)
    rw [q] at w4
    have w5 := bc1 (f := .tuple) (v := (.sh, stD (allN.filter (has e.f)))) w4 rfl
    have a4 : evS c (.ret (.bc .tuple [(.lc (.v 2) (.nm 2) .seq [(.g g0)] [(.cmp .in_ (.v 2) (.v 1))] [2])])) [some (false, stD l), some (false, .lst (e.f.map W)), none] s = .rt (.sh, stD (allN.filter (has e.f))) s := by
      rw [evS, sr_ok w5]; rfl
    rw [seq_one a3, evSs, a4]; rfl
/-- does_force -/
theorem c_does (I : Wl P gl jc jcs jw jd jb jf jt jx g0 g1 g2 g3) (hfu : 20 < fuel) (n : Nat) {l : List Nat} (hl : Lt l) (l1 : 1 ≤ l.length) (l2 : l.length ≤ 2) {e : De} (hr : der l = some e) {w : Nat} (hw : w < 17) (s : Sg) : evC P gl sb fuel (n + 4) jt [(.sh, stD l), (.sh, W w)] s = .ok (.sh, .bl (has (forced e.f) w)) s := by
  rw [open_ I.ht _ _ rfl]
  let c : Cc := ⟨gl, sb, evC P gl sb fuel (n + 3), fuel⟩
  have w1 : evE c (.call jc [(.v 1)]) [some (false, stD l), some (false, W w)] s = .ok (.sh, .non) s := c_cword (sb := sb) (fuel := fuel) I.hc I.h0 (n + 2) hw s
  have w2 : evE c (.call jf [(.v 0)]) [some (false, stD l), some (false, W w)] s = .ok (.sh, stD (forced e.f)) s := c_forced I hfu n hl l1 l2 hr s
  have a1 : evS c (.ex (.call jc [(.v 1)])) [some (false, stD l), some (false, W w)] s = .nx [some (false, stD l), some (false, W w)] s := by
    rw [evS, sr_ok w1]
  have a2 : evE c (.cmp .in_ (.v 1) (.call jf [(.v 0)])) [some (false, stD l), some (false, W w)] s = .ok (.sh, .bl (has (forced e.f) w)) s := by
    have v1 : evE c (.v 1) [some (false, stD l), some (false, W w)] s = .ok (.sh, W w) s := rfl
    rw [evE, bind_ok v1, bind_ok w2]
    show lift ((if flatD (W w) && ((forced e.f).map W).all flatD then some (inD (W w) ((forced e.f).map W)) else _).map _) s = _
    rw [flW hw, flsW (forced_lt _), inW hw (forced_lt _)]; rfl
  show backF _ (evSs c [_, _] [some (false, stD l), some (false, W w)] s) = _
  rw [seq_one a1, evSs, evS, sr_ok a2]; rfl
end
end Ev
set_option Elab.async false
set_option linter.all false
set_option maxRecDepth 100000
set_option maxHeartbeats 400000
namespace Ev
open PySem PySem.Spec PyProof.Rows L2
/-! ### fractions -/
/-- Euclid's loop, in any frame -/
theorem euclid {tst : Env → Sg → Out Bool} {body : Env → Sg → SR} {E : Int → Int → Env} {s : Sg} (ht : ∀ a b, tst (E a b) s = .ok (decide (b ≠ 0)) s) (hb : ∀ a b, b ≠ 0 → body (E a b) s = .nx (E b (a.fmod b)) s) : ∀ (k fu : Nat) (a b : Nat), b < 2 ^ k → 2 * k + 1 ≤ fu → whlL tst body fu (E a b) s = .nx (E (Nat.gcd a b : Nat) 0) s := by
  have t1 : ∀ (fu a b : Nat), b ≠ 0 → whlL tst body (fu + 1) (E a b) s = whlL tst body fu (E b (a % b : Nat)) s := fun fu a b h => by
    have h' : ((b : Int) ≠ 0) := by omega
    have q : (a : Int).fmod (b : Int) = ((a % b : Nat) : Int) := by rw [Int.fmod_eq_emod_of_nonneg _ (by omega)]; rfl
    have e := hb a b h'
    rw [q] at e
    exact whl_nx (by rw [ht, decide_eq_true h']) e
  have t0 : ∀ (fu a : Nat), whlL tst body (fu + 1) (E a (0 : Nat)) s = .nx (E a 0) s := fun fu a => whl_end (by rw [ht]; rfl)
  intro k
  induction k with
  | zero =>
    intro fu a b h hf
    have : b = 0 := by simpa using h
    subst this
    obtain ⟨fu, rfl⟩ : ∃ f, fu = f + 1 := ⟨fu - 1, by omega⟩
    rw [t0, Nat.gcd_zero_right]
  | succ k ih =>
    intro fu a b h hf
    obtain ⟨fu, rfl⟩ : ∃ f, fu = f + 2 := ⟨fu - 2, by omega⟩
    have hp : 2 ^ (k + 1) = 2 * 2 ^ k := by rw [Nat.pow_succ]; omega
    by_cases h1 : b = 0
    · subst h1
      rw [t0, Nat.gcd_zero_right]
    · rw [t1 _ _ _ h1]
      have hr : a % b < b := Nat.mod_lt _ (by omega)
      have g1 : Nat.gcd a b = Nat.gcd b (a % b) := by rw [Nat.gcd_comm a b, Nat.gcd_rec b a, Nat.gcd_comm]
      by_cases h2 : a % b = 0
      · rw [h2, t0, g1, h2, Nat.gcd_zero_right]
      · rw [t1 _ _ _ h2]
        have hr2 : b % (a % b) < a % b := Nat.mod_lt _ (by omega)
        have g2 : Nat.gcd b (a % b) = Nat.gcd (a % b) (b % (a % b)) := by rw [Nat.gcd_comm b, Nat.gcd_rec (a % b) b, Nat.gcd_comm]
        have hs : b % (a % b) < 2 ^ k := by
          by_cases h3 : 2 * (a % b) ≤ b
          · omega
          · have : b % (a % b) = b - a % b := by
              rw [Nat.mod_eq_sub_mod (by omega), Nat.mod_eq_of_lt (by omega)]
            omega
        rw [ih fu _ _ hs (by omega), g1, g2]
def gcdI (n d : Int) : Nat := Nat.gcd n.natAbs d.natAbs
/-- the fraction of two ints in lowest terms, the second one above 0 -/
def lowN (n d : Int) : Int := n / (gcdI n d : Nat)
def lowM (n d : Int) : Int := d / (gcdI n d : Nat)
def lowD (n d : Int) : D := .tup [.int (lowN n d), .int (lowM n d)]
theorem gcd_pos (n : Int) {d : Int} (h : 0 < d) : 0 < gcdI n d := Nat.gcd_pos_of_pos_right _ (by omega)
theorem gcd_le (n : Int) {d : Int} (h : 0 < d) : (gcdI n d : Int) ≤ d := by
  have : gcdI n d ≤ d.natAbs := Nat.gcd_le_right _ (by omega)
  omega
theorem gcd_dn (n d : Int) : ((gcdI n d : Nat) : Int) ∣ n := by
  rw [Int.ofNat_dvd_left]; exact Nat.gcd_dvd_left _ _
theorem gcd_dd (n d : Int) : ((gcdI n d : Nat) : Int) ∣ d := by
  rw [Int.ofNat_dvd_left]; exact Nat.gcd_dvd_right _ _
theorem lowN_mul (n d : Int) : lowN n d * (gcdI n d : Nat) = n := Int.ediv_mul_cancel (gcd_dn n d)
theorem lowM_mul (n d : Int) : lowM n d * (gcdI n d : Nat) = d := Int.ediv_mul_cancel (gcd_dd n d)
theorem lowM_pos (n : Int) {d : Int} (h : 0 < d) : 0 < lowM n d := by
  have g := gcd_pos n h
  have e := lowM_mul n d
  rcases Int.lt_or_le 0 (lowM n d) with q | q
  · exact q
  · have : lowM n d * (gcdI n d : Nat) ≤ 0 := Int.mul_nonpos_of_nonpos_of_nonneg q (by omega)
    omega
theorem lowM_le (n : Int) {d : Int} (h : 0 < d) : lowM n d ≤ d := by
  have g := gcd_pos n h
  have e := lowM_mul n d
  have p := lowM_pos n h
  have : lowM n d * 1 ≤ lowM n d * (gcdI n d : Nat) := Int.mul_le_mul_of_nonneg_left (by omega) (by omega)
  omega
theorem low_cross (n : Int) {d : Int} (h : 0 < d) : lowN n d * d = n * lowM n d := by
  have g := gcd_pos n h
  have e1 := lowN_mul n d
  have e2 := lowM_mul n d
  generalize lowN n d = p at *
  generalize lowM n d = q at *
  generalize ((gcdI n d : Nat) : Int) = t at *
  rw [← e1, ← e2, Int.mul_comm q t, ← Int.mul_assoc]
theorem low_cop (n : Int) {d : Int} (h : 0 < d) : gcdI (lowN n d) (lowM n d) = 1 := by
  have g := gcd_pos n h
  have e1 : (lowN n d).natAbs = n.natAbs / gcdI n d := by
    have := congrArg Int.natAbs (lowN_mul n d)
    rw [Int.natAbs_mul, Int.natAbs_natCast] at this
    rw [← this, Nat.mul_div_cancel _ g]
  have e2 : (lowM n d).natAbs = d.natAbs / gcdI n d := by
    have := congrArg Int.natAbs (lowM_mul n d)
    rw [Int.natAbs_mul, Int.natAbs_natCast] at this
    rw [← this, Nat.mul_div_cancel _ g]
  unfold gcdI at e1 e2 g
  show Nat.gcd (lowN n d).natAbs (lowM n d).natAbs = 1
  rw [e1, e2]
  exact Nat.gcd_div_gcd_div_gcd_of_pos_right (by omega)
theorem low_id {n d : Int} (h : gcdI n d = 1) : lowN n d = n ∧ lowM n d = d := by
  have e1 := lowN_mul n d
  have e2 := lowM_mul n d
  rw [h] at e1 e2
  constructor <;> omega
/-- less, of fractions in lowest terms and of any -/
theorem low_less {n d n' d' : Int} (h : 0 < d) (h' : 0 < d') : lowN n d * lowM n' d' < lowN n' d' * lowM n d ↔ n * d' < n' * d := by
  have g := gcd_pos n h
  have g' := gcd_pos n' h'
  have e1 := lowN_mul n d
  have e2 := lowM_mul n d
  have e3 := lowN_mul n' d'
  have e4 := lowM_mul n' d'
  generalize lowN n d = p at *
  generalize lowM n d = q at *
  generalize lowN n' d' = p' at *
  generalize lowM n' d' = q' at *
  have gt : (0 : Int) < (gcdI n d : Nat) * (gcdI n' d' : Nat) := Int.mul_pos (by omega) (by omega)
  generalize ((gcdI n d : Nat) : Int) = t at *
  generalize ((gcdI n' d' : Nat) : Int) = t' at *
  have a1 : n * d' = (p * q') * (t * t') := by rw [← e1, ← e4]; ac_rfl
  have a2 : n' * d = (p' * q) * (t * t') := by rw [← e3, ← e2]; ac_rfl
  rw [a1, a2]
  exact ⟨fun z => Int.mul_lt_mul_of_pos_right z gt, fun z => Int.lt_of_mul_lt_mul_right z (Int.le_of_lt gt)⟩
section
variable {P : List Fn} {gl : List D} {sb : List (Nat × Nat)} {fuel : Nat}
def commonF : Fn := ⟨2, 2, [(.par [(.nm 0), (.nm 1)] [(.bc .abs [(.v 0)]), (.bc .abs [(.v 1)])]),
  (.whl (.cmp .ne (.v 1) (.k (.int 0))) [(.lk [1] (.par [(.nm 0), (.nm 1)] [(.v 1), (.op .mod (.v 0) (.v 1))]))]),
  (.ret (.v 0))]⟩
def lowestF (jc : Nat) : Fn := ⟨3, 2, [(.asg (.nm 2) (.call jc [(.v 0), (.v 1)])),
  (.ifs (.cmp .lt (.v 1) (.k (.int 0))) [(.asg (.nm 2) (.neg (.v 2)))] []),
  (.ret (.tup [(.op .fdiv (.v 0) (.v 2)), (.op .fdiv (.v 1) (.v 2))]))]⟩
def lawlowF : Fn := ⟨4, 2, [(.lk [1] (.par [(.nm 2), (.nm 3)] [(.bc .abs [(.v 0)]), (.v 1)])),
  (.whl (.cmp .ne (.v 3) (.k (.int 0))) [(.lk [3] (.par [(.nm 2), (.nm 3)] [(.v 3), (.op .mod (.v 2) (.v 3))]))]),
  (.ret (.tup [(.op .fdiv (.v 0) (.v 2)), (.op .fdiv (.v 1) (.v 2))]))]⟩
theorem absI_nat (n : Int) : absI n = (n.natAbs : Nat) := by unfold absI; split <;> omega
theorem c_common {jc : Nat} (h : At P jc commonF) (n : Nat) (a b : Int) {k : Nat} (hb : b.natAbs < 2 ^ k) (hf : 2 * k + 1 ≤ fuel) (s : Sg) : evC P gl sb fuel (n + 1) jc [(.sh, .int a), (.sh, .int b)] s = .ok (.sh, .int (gcdI a b : Nat)) s := by
  rw [open_ h _ _ rfl]
  have a1 : evS ⟨gl, sb, evC P gl sb fuel n, fuel⟩ (.par [(.nm 0), (.nm 1)] [(.bc .abs [(.v 0)]), (.bc .abs [(.v 1)])]) [some (false, .int a), some (false, .int b)] s = .nx [some (false, .int (a.natAbs : Nat)), some (false, .int (b.natAbs : Nat))] s := by
    rw [← absI_nat, ← absI_nat]; rfl
  have a2 : evS ⟨gl, sb, evC P gl sb fuel n, fuel⟩ (.whl (.cmp .ne (.v 1) (.k (.int 0))) [(.lk [1] (.par [(.nm 0), (.nm 1)] [(.v 1), (.op .mod (.v 0) (.v 1))]))]) [some (false, .int (a.natAbs : Nat)), some (false, .int (b.natAbs : Nat))] s = .nx [some (false, .int (gcdI a b : Nat)), some (false, .int 0)] s :=
    euclid (E := fun x y => [some (false, .int x), some (false, .int y)]) (fun x y => by
      by_cases h : y = 0 <;> simp [evSs, evS, evE, evEs, evTs, evT, Out.bind, Out.sr, lift, SR.seq, ixV, truD, cmD, opD, plainD, eqD, setS, setV, keep, bcD, dat, ixD, optS, asgV, asgVs, asgD, asgDs, backF, Ev.lent, Ev.leaves, testsD, keeps, flatD, inD, itV, itW, isLo, isSeq, itD, owned, Ev.unown, mixed, isFr, Ev.settle, oneI, slD, isiD, augV, flatAt, noEx, h]) (fun x y hy => by simp [evSs, evS, evE, evEs, evTs, evT, Out.bind, Out.sr, lift, SR.seq, ixV, truD, cmD, opD, plainD, eqD, setS, setV, keep, bcD, dat, ixD, optS, asgV, asgVs, asgD, asgDs, backF, Ev.lent, Ev.leaves, testsD, keeps, flatD, inD, itV, itW, isLo, isSeq, itD, owned, Ev.unown, mixed, isFr, Ev.settle, oneI, slD, isiD, augV, flatAt, noEx, hy]) k fuel _ _ hb hf
  show backF _ (evSs ⟨gl, sb, evC P gl sb fuel n, fuel⟩ [_, _, _] [some (false, .int a), some (false, .int b)] s) = _
  rw [seq_one a1, seq_one a2]; rfl
theorem divs (n : Int) {d : Int} (h : 0 < d) (h2 : d < 1073741824) : opD .fdiv (.int n) (.int (gcdI n d : Nat)) = some (.sh, .int (lowN n d)) ∧ opD .fdiv (.int d) (.int (gcdI n d : Nat)) = some (.sh, .int (lowM n d)) := by
  have g := gcd_pos n h
  have l := gcd_le n h
  have c : ((gcdI n d : Nat) : Int) ≠ 0 ∧ ((gcdI n d : Nat) : Int).natAbs < 1073741824 := ⟨by omega, by omega⟩
  constructor
  · show (if _ then _ else _) = _
    rw [if_pos c, Int.fdiv_eq_ediv_of_nonneg _ (by omega)]; rfl
  · show (if _ then _ else _) = _
    rw [if_pos c, Int.fdiv_eq_ediv_of_nonneg _ (by omega)]; rfl
theorem c_lowest {jc jl : Nat} (hc : At P jc commonF) (h : At P jl (lowestF jc)) (m : Nat) (n : Int) {d : Int} (h0 : 0 < d) (h1 : d < 1073741824) {k : Nat} (hk : d.natAbs < 2 ^ k) (hf : 2 * k + 1 ≤ fuel) (s : Sg) : evC P gl sb fuel (m + 2) jl [(.sh, .int n), (.sh, .int d)] s = .ok (.sh, lowD n d) s := by
  rw [open_ h _ _ rfl]
  have w := c_common (gl := gl) (sb := sb) (fuel := fuel) hc m n d hk hf s
  obtain ⟨d1, d2⟩ := divs n h0 h1
  have nl : ¬ d < 0 := by omega
  generalize ((gcdI n d : Nat) : Int) = g at *
  have e1 : evS ⟨gl, sb, evC P gl sb fuel (m + 1), fuel⟩ (.asg (.nm 2) (.call jc [(.v 0), (.v 1)])) [some (false, .int n), some (false, .int d), none] s = .nx [some (false, .int n), some (false, .int d), some (false, .int g)] s := by
    have b : evE ⟨gl, sb, evC P gl sb fuel (m + 1), fuel⟩ (.call jc [(.v 0), (.v 1)]) [some (false, .int n), some (false, .int d), none] s = .ok (.sh, .int g) s := w
    rw [evS, sr_ok b]; rfl
  have e2 : evS ⟨gl, sb, evC P gl sb fuel (m + 1), fuel⟩ (.ifs (.cmp .lt (.v 1) (.k (.int 0))) [(.asg (.nm 2) (.neg (.v 2)))] []) [some (false, .int n), some (false, .int d), some (false, .int g)] s = .nx [some (false, .int n), some (false, .int d), some (false, .int g)] s := by
    simp [evSs, evS, evE, evEs, evTs, evT, Out.bind, Out.sr, lift, SR.seq, ixV, truD, cmD, opD, plainD, eqD, setS, setV, keep, bcD, dat, ixD, optS, asgV, asgVs, asgD, asgDs, backF, Ev.lent, Ev.leaves, testsD, keeps, flatD, inD, itV, itW, isLo, isSeq, itD, owned, Ev.unown, mixed, isFr, Ev.settle, oneI, slD, isiD, augV, flatAt, noEx, nl]
  have e3 : evS ⟨gl, sb, evC P gl sb fuel (m + 1), fuel⟩ (.ret (.tup [(.op .fdiv (.v 0) (.v 2)), (.op .fdiv (.v 1) (.v 2))])) [some (false, .int n), some (false, .int d), some (false, .int g)] s = .rt (.sh, lowD n d) s := by
    have b1 : evE ⟨gl, sb, evC P gl sb fuel (m + 1), fuel⟩ (.op .fdiv (.v 0) (.v 2)) [some (false, .int n), some (false, .int d), some (false, .int g)] s = .ok (.sh, .int (lowN n d)) s := by
      show lift (opD .fdiv (.int n) (.int g)) s = _
      rw [d1]; rfl
    have b2 : evE ⟨gl, sb, evC P gl sb fuel (m + 1), fuel⟩ (.op .fdiv (.v 1) (.v 2)) [some (false, .int n), some (false, .int d), some (false, .int g)] s = .ok (.sh, .int (lowM n d)) s := by
      show lift (opD .fdiv (.int d) (.int g)) s = _
      rw [d2]; rfl
    have b3 : evE ⟨gl, sb, evC P gl sb fuel (m + 1), fuel⟩ (.tup [(.op .fdiv (.v 0) (.v 2)), (.op .fdiv (.v 1) (.v 2))]) [some (false, .int n), some (false, .int d), some (false, .int g)] s = .ok (.sh, lowD n d) s := by
      rw [evE, evEs, bind_ok b1, evEs, bind_ok b2]; rfl
    rw [evS, sr_ok b3]; rfl
  show backF _ (evSs ⟨gl, sb, evC P gl sb fuel (m + 1), fuel⟩ [_, _, _] [some (false, .int n), some (false, .int d), none] s) = _
  rw [seq_one e1, seq_one e2, evSs, e3]; rfl
theorem c_lawlow {jl : Nat} (h : At P jl lawlowF) (m : Nat) (n : Int) {d : Int} (h0 : 0 < d) (h1 : d < 1073741824) {k : Nat} (hk : d.natAbs < 2 ^ k) (hf : 2 * k + 1 ≤ fuel) (s : Sg) : evC P gl sb fuel (m + 1) jl [(.sh, .int n), (.sh, .int d)] s = .ok (.sh, lowD n d) s := by
  rw [open_ h _ _ rfl]
  have a1 : evS ⟨gl, sb, evC P gl sb fuel m, fuel⟩ (.lk [1] (.par [(.nm 2), (.nm 3)] [(.bc .abs [(.v 0)]), (.v 1)])) [some (false, .int n), some (false, .int d), none, none] s = .nx [some (false, .int n), some (false, .int d), some (false, .int (n.natAbs : Nat)), some (false, .int (d.natAbs : Nat))] s := by
    have q : ((d.natAbs : Nat) : Int) = d := by omega
    rw [← absI_nat n, q]; rfl
  have a2 : evS ⟨gl, sb, evC P gl sb fuel m, fuel⟩ (.whl (.cmp .ne (.v 3) (.k (.int 0))) [(.lk [3] (.par [(.nm 2), (.nm 3)] [(.v 3), (.op .mod (.v 2) (.v 3))]))]) [some (false, .int n), some (false, .int d), some (false, .int (n.natAbs : Nat)), some (false, .int (d.natAbs : Nat))] s = .nx [some (false, .int n), some (false, .int d), some (false, .int (gcdI n d : Nat)), some (false, .int 0)] s :=
    euclid (E := fun x y => [some (false, .int n), some (false, .int d), some (false, .int x), some (false, .int y)]) (fun x y => by
      by_cases h : y = 0 <;> simp [evSs, evS, evE, evEs, evTs, evT, Out.bind, Out.sr, lift, SR.seq, ixV, truD, cmD, opD, plainD, eqD, setS, setV, keep, bcD, dat, ixD, optS, asgV, asgVs, asgD, asgDs, backF, Ev.lent, Ev.leaves, testsD, keeps, flatD, inD, itV, itW, isLo, isSeq, itD, owned, Ev.unown, mixed, isFr, Ev.settle, oneI, slD, isiD, augV, flatAt, noEx, h]) (fun x y hy => by simp [evSs, evS, evE, evEs, evTs, evT, Out.bind, Out.sr, lift, SR.seq, ixV, truD, cmD, opD, plainD, eqD, setS, setV, keep, bcD, dat, ixD, optS, asgV, asgVs, asgD, asgDs, backF, Ev.lent, Ev.leaves, testsD, keeps, flatD, inD, itV, itW, isLo, isSeq, itD, owned, Ev.unown, mixed, isFr, Ev.settle, oneI, slD, isiD, augV, flatAt, noEx, hy]) k fuel _ _ hk hf
  obtain ⟨d1, d2⟩ := divs n h0 h1
  generalize ((gcdI n d : Nat) : Int) = g at *
  have e3 : evS ⟨gl, sb, evC P gl sb fuel m, fuel⟩ (.ret (.tup [(.op .fdiv (.v 0) (.v 2)), (.op .fdiv (.v 1) (.v 2))])) [some (false, .int n), some (false, .int d), some (false, .int g), some (false, .int 0)] s = .rt (.sh, lowD n d) s := by
    have b1 : evE ⟨gl, sb, evC P gl sb fuel m, fuel⟩ (.op .fdiv (.v 0) (.v 2)) [some (false, .int n), some (false, .int d), some (false, .int g), some (false, .int 0)] s = .ok (.sh, .int (lowN n d)) s := by
      show lift (opD .fdiv (.int n) (.int g)) s = _
      rw [d1]; rfl
    have b2 : evE ⟨gl, sb, evC P gl sb fuel m, fuel⟩ (.op .fdiv (.v 1) (.v 2)) [some (false, .int n), some (false, .int d), some (false, .int g), some (false, .int 0)] s = .ok (.sh, .int (lowM n d)) s := by
      show lift (opD .fdiv (.int d) (.int g)) s = _
      rw [d2]; rfl
    have b3 : evE ⟨gl, sb, evC P gl sb fuel m, fuel⟩ (.tup [(.op .fdiv (.v 0) (.v 2)), (.op .fdiv (.v 1) (.v 2))]) [some (false, .int n), some (false, .int d), some (false, .int g), some (false, .int 0)] s = .ok (.sh, lowD n d) s := by
      rw [evE, evEs, bind_ok b1, evEs, bind_ok b2]; rfl
    rw [evS, sr_ok b3]; rfl
  show backF _ (evSs ⟨gl, sb, evC P gl sb fuel m, fuel⟩ [_, _, _] [some (false, .int n), some (false, .int d), none, none] s) = _
  rw [seq_one a1, seq_one a2, evSs, e3]; rfl
end
end Ev
set_option Elab.async false
set_option linter.all false
set_option maxRecDepth 100000
set_option maxHeartbeats 400000
namespace Ev
open PySem PySem.Spec PyProof.Rows L2
/-! ### calls, loops: one step each, the frame of any form -/
section
variable {c : Cc} {i : Nat} {env : Env} {s s1 s2 s3 s4 : Sg} {r : Out VD}
theorem app_ok {e : E} {l : List D} {d : D} (ho : owned env i = some l) (he : evE c e env s = .ok (.sh, d) s1) (hl : l.length < sizeLine) : evS c (.app i e) env s = .nx (env.set i (some (true, .lst (l ++ [d])))) s1 := by
  rw [evS, ho]
  show (evE c e env s).sr _ _ = _
  rw [sr_ok he]
  show (if l.length < sizeLine then SR.nx _ _ else .stk) = _
  rw [if_pos hl]
theorem call0 (hc : c.call i [] s = r) : evE c (.call i []) env s = r := by
  rw [evE, evEs]
  exact hc
theorem call1 {a : E} {d : D} (ha : evE c a env s = .ok (.sh, d) s1) (hc : c.call i [(.sh, d)] s1 = r) : evE c (.call i [a]) env s = r := by
  rw [evE, evEs, bind_ok ha]
  exact hc
theorem call2 {a b : E} {d e : D} (ha : evE c a env s = .ok (.sh, d) s1) (hb : evE c b env s1 = .ok (.sh, e) s2) (hc : c.call i [(.sh, d), (.sh, e)] s2 = r) : evE c (.call i [a, b]) env s = r := by
  rw [evE, evEs, bind_ok ha, evEs, bind_ok hb]
  exact hc
theorem call3 {a b g : E} {d e h : D} (ha : evE c a env s = .ok (.sh, d) s1) (hb : evE c b env s1 = .ok (.sh, e) s2) (hg : evE c g env s2 = .ok (.sh, h) s3) (hc : c.call i [(.sh, d), (.sh, e), (.sh, h)] s3 = r) : evE c (.call i [a, b, g]) env s = r := by
  rw [evE, evEs, bind_ok ha, evEs, bind_ok hb, evEs, bind_ok hg]
  exact hc
theorem call4 {a b g k : E} {d e h l : D} (ha : evE c a env s = .ok (.sh, d) s1) (hb : evE c b env s1 = .ok (.sh, e) s2) (hg : evE c g env s2 = .ok (.sh, h) s3) (hk : evE c k env s3 = .ok (.sh, l) s4) (hc : c.call i [(.sh, d), (.sh, e), (.sh, h), (.sh, l)] s4 = r) : evE c (.call i [a, b, g, k]) env s = r := by
  rw [evE, evEs, bind_ok ha, evEs, bind_ok hb, evEs, bind_ok hg, evEs, bind_ok hk]
  exact hc
theorem for_ok {tg : Tg} {k : IK} {ies : List E} {body : List S} {xs : List VD} {items : List D} {q : SR} (h : evEs c ies env s = .ok xs s1) (hi : itW k xs = some items) (hf : forL (asgD tg) (evSs c body) items env s1 = q) : evS c (.for_ tg k ies body) env s = q := by
  rw [evS, sr_ok h, hi]
  exact hf
theorem evEs1 {a : E} {x : VD} (h : evE c a env s = .ok x s1) : evEs c [a] env s = .ok [x] s1 := by
  rw [evEs, bind_ok h]; rfl
theorem asg_sh {t : Nat} {a : E} {d : D} (h : evE c a env s = .ok (.sh, d) s1) : evS c (.asg (.nm t) a) env s = .nx (env.set t (some (false, d))) s1 := by
  rw [evS, sr_ok h]; rfl
theorem asg_fr {t : Nat} {a : E} {d : D} (h : evE c a env s = .ok (.fr, d) s1) : evS c (.asg (.nm t) a) env s = .nx (env.set t (some (true, d))) s1 := by
  rw [evS, sr_ok h]; rfl
theorem evT_ok {a : E} {b : Bool} (h : evE c a env s = .ok (.sh, .bl b) s1) : evT c a env s = .ok b s1 := by
  rw [evT, bind_ok h]; rfl
theorem ifs_f {t : E} {a b : List S} (h : evE c t env s = .ok (.sh, .bl false) s1) : evS c (.ifs t a b) env s = evSs c b env s1 := by
  rw [evS, sr_ok (evT_ok h)]; rfl
theorem ifs_t {t : E} {a b : List S} (h : evE c t env s = .ok (.sh, .bl true) s1) : evS c (.ifs t a b) env s = evSs c a env s1 := by
  rw [evS, sr_ok (evT_ok h)]; rfl
theorem ifs0 {t : E} {a : List S} (h : evE c t env s = .ok (.sh, .bl false) s1) : evS c (.ifs t a []) env s = .nx env s1 := by
  rw [ifs_f h]; rfl
theorem ret_sh {a : E} {d : D} (h : evE c a env s = .ok (.sh, d) s1) : evS c (.ret a) env s = .rt (.sh, d) s1 := by
  rw [evS, sr_ok h]; rfl
theorem and_t {a b : E} (h : evE c a env s = .ok (.sh, .bl true) s1) : evE c (.and_ a b) env s = evE c b env s1 := by
  rw [evE, bind_ok h]; rfl
theorem and_f {a b : E} (h : evE c a env s = .ok (.sh, .bl false) s1) : evE c (.and_ a b) env s = .ok (.sh, .bl false) s1 := by
  rw [evE, bind_ok h]; rfl
theorem or_t {a b : E} (h : evE c a env s = .ok (.sh, .bl true) s1) : evE c (.or_ a b) env s = .ok (.sh, .bl true) s1 := by
  rw [evE, bind_ok h]; rfl
theorem or_f {a b : E} (h : evE c a env s = .ok (.sh, .bl false) s1) : evE c (.or_ a b) env s = evE c b env s1 := by
  rw [evE, bind_ok h]; rfl
theorem not_ok {a : E} {b : Bool} (h : evE c a env s = .ok (.sh, .bl b) s1) : evE c (.not_ a) env s = .ok (.sh, .bl (!b)) s1 := by
  rw [evE, bind_ok h]; rfl
theorem or2 {a b : E} {x y : Bool} (h : evE c a env s = .ok (.sh, .bl x) s) (h2 : evE c b env s = .ok (.sh, .bl y) s) : evE c (.or_ a b) env s = .ok (.sh, .bl (x || y)) s := by
  cases x
  · rw [or_f h]; exact h2
  · rw [or_t h]; rfl
theorem and2 {a b : E} {x y : Bool} (h : evE c a env s = .ok (.sh, .bl x) s) (h2 : evE c b env s = .ok (.sh, .bl y) s) : evE c (.and_ a b) env s = .ok (.sh, .bl (x && y)) s := by
  cases x
  · rw [and_f h]; rfl
  · rw [and_t h]; exact h2
theorem cmp_ok {o : Cm} {a b : E} {x y : D} {k k' : Kd} {v : Bool} (h : evE c a env s = .ok (k, x) s1) (h2 : evE c b env s1 = .ok (k', y) s2) (hv : cmD o x y = some v) : evE c (.cmp o a b) env s = .ok (.sh, .bl v) s2 := by
  rw [evE, bind_ok h, bind_ok h2]
  show lift ((cmD o x y).map _) s2 = _
  rw [hv]; rfl
theorem op_ok {o : Op} {a b : E} {x y : D} {k k' : Kd} {v : VD} (h : evE c a env s = .ok (k, x) s1) (h2 : evE c b env s1 = .ok (k', y) s2) (hv : opD o x y = some v) : evE c (.op o a b) env s = .ok v s2 := by
  rw [evE, bind_ok h, bind_ok h2]
  show lift (opD o x y) s2 = _
  rw [hv]; rfl
theorem ix_ok {a b : E} {l : List D} {j : Int} {k k' : Kd} {v d0 : D} (hd : d0 = .tup l ∨ d0 = .lst l) (h : evE c a env s = .ok (k, d0) s1) (h2 : evE c b env s1 = .ok (k', .int j) s2) (hv : L2.atI l j = some v) : evE c (.ix a b) env s = .ok (.sh, v) s2 := by
  rw [evE, bind_ok h, bind_ok h2]
  rcases hd with rfl | rfl
  · show lift ((L2.atI l j).map _) s2 = _
    rw [hv]; rfl
  · show lift ((L2.atI l j).map _) s2 = _
    rw [hv]; rfl
/-- [e for x, y in a if t], a list of pairs -/
theorem lc_pt {α : Type} {e a t : E} {x y : Nat} {l : List α} {own : List Nat} {k : Kd} {d0 : D} (g g' : α → D) (f : α → D) (b : α → Bool) (hd : d0 = .tup (l.map fun p => .tup [g p, g' p]) ∨ d0 = .lst (l.map fun p => .tup [g p, g' p])) (hm : l.length ≤ 1000) (ha : evE c a env s = .ok (k, d0) s) (ht : ∀ p, p ∈ l → evE c t (((wipeE env own).set x (some (false, g p))).set y (some (false, g' p))) s = .ok (.sh, .bl (b p)) s) (h : ∀ p, p ∈ l → b p = true → evE c e (((wipeE env own).set x (some (false, g p))).set y (some (false, g' p))) s = .ok (.sh, f p) s) : evE c (.lc e (.tu [.nm x, .nm y]) .seq [a] [t] own) env s = .ok (.fr, .lst ((l.filter b).map f)) s := by
  have q : ∀ l' : List α, (∀ p ∈ l', p ∈ l) → lcLoop (asgD (.tu [.nm x, .nm y])) (fun e' s => (testsD (evTs c [t]) e' s).bind fun b s1 => if b = true then (evE c e e' s1).bind fun x s2 => lift ((keep x).map fun d => [d]) s2 else .ok [] s1) (l'.map fun p => .tup [g p, g' p]) (wipeE env own) s = .ok ((l'.filter b).map f) s := fun l' => by
    induction l' with
    | nil => intro _; rfl
    | cons p r ih =>
      intro hs
      have hp := hs p (List.mem_cons_self ..)
      rw [List.map_cons, lcLoop]
      have e1 : asgD (.tu [.nm x, .nm y]) (.tup [g p, g' p]) (wipeE env own) = some (((wipeE env own).set x (some (false, g p))).set y (some (false, g' p))) := rfl
      rw [e1]
      show ((testsD (evTs c [t]) _ s).bind _).bind _ = _
      have e2 : testsD (evTs c [t]) (((wipeE env own).set x (some (false, g p))).set y (some (false, g' p))) s = .ok (b p) s := by
        show (evE c t _ s).bind _ = _
        rw [bind_ok (ht p hp)]; rfl
      rw [bind_ok e2, List.filter_cons]
      have rest := ih fun w hw => hs w (List.mem_cons_of_mem _ hw)
      cases hb : b p with
      | false =>
        show (Out.ok [] s).bind _ = _
        rw [bind_ok rfl, bind_ok rest]; rfl
      | true =>
        show ((evE c e _ s).bind _).bind _ = _
        rw [bind_ok (h p hp hb)]
        show (Out.ok [f p] s).bind _ = _
        rw [bind_ok rfl, bind_ok rest]; rfl
  have items : itV .seq [(k, d0)] = some (l.map fun p => .tup [g p, g' p]) := by rcases hd with rfl | rfl <;> (cases k <;> rfl)
  rw [evE, bind_ok (evEs1 ha), items]
  show (noEx (lcLoop _ _ _ _ _)).bind _ = _
  rw [q l fun p hp => hp]
  show small _ _ = _
  unfold small
  rw [if_pos (sz1000 (by rw [List.length_map]; exact Nat.le_trans (List.length_filter_le _ _) hm))]
/-- two clauses of names, nothing turned -/
def one2 (c : Cc) (elt : E) (tg1 : Tg) (k1 : IK) (ies1 : List E) (own1 : List Nat) : Env → Sg → Out (List D) := fun e s => (testsD (evTs c []) e s).bind fun b s1 => if b then (evEs c ies1 e s1).bind fun xs s2 => (lift (itW k1 xs) s2).bind fun items1 s3 =>
        lcLoop (asgD tg1) (fun e s => (testsD (evTs c []) e s).bind fun b s1 => if b then (evE c elt e s1).bind fun x s2 => lift ((keep x).map fun d => [d]) s2 else .ok [] s1) items1 (wipeE e own1) s3 else .ok [] s1
theorem one2_ok {elt : E} {tg1 : Tg} {k1 : IK} {ies1 : List E} {own1 : List Nat} {xs : List VD} {items : List D} {ds : List D} (h1 : evEs c ies1 env s = .ok xs s) (h2 : itW k1 xs = some items) (h3 : lcLoop (asgD tg1) (fun e s => (testsD (evTs c []) e s).bind fun b s1 => if b then (evE c elt e s1).bind fun x s2 => lift ((keep x).map fun d => [d]) s2 else .ok [] s1) items (wipeE env own1) s = .ok ds s) : one2 c elt tg1 k1 ies1 own1 env s = .ok ds s := by
  unfold one2
  show ((evEs c ies1 env s).bind _) = _
  rw [bind_ok h1, h2]
  exact h3
theorem lc2_ok {elt : E} {tg tg1 : Tg} {k k1 : IK} {ies ies1 : List E} {own own1 : List Nat} {xs : List VD} {items ds : List D} (h1 : evEs c ies env s = .ok xs s) (h2 : itV k xs = some items) (h3 : lcLoop (asgD tg) (one2 c elt tg1 k1 ies1 own1) items (wipeE env own) s = .ok ds s) (h4 : ds.length ≤ 1000) : evE c (.lc2 elt tg k ies [] tg1 k1 ies1 [] own own1) env s = .ok (.fr, .lst ds) s := by
  rw [evE, bind_ok h1, h2]
  show (noEx (lcLoop (asgD tg) (one2 c elt tg1 k1 ies1 own1) items (wipeE env own) s)).bind _ = _
  rw [h3]
  show small ds s = _
  unfold small
  rw [if_pos (sz1000 h4)]
end
theorem itV_rg1 {m : Nat} (h : m ≤ 1000) : itV .rg1 [(.sh, .int (m : Int))] = some (rngI 0 m) := by
  have r1 := rgBd h
  show (if rgOk 0 (m : Int) then some _ else none) = _
  rw [if_pos r1]
theorem itW_rg1 {m : Nat} (h : m ≤ 1000) : itW .rg1 [(.sh, .int (m : Int))] = some (rngI 0 m) := by
  have r1 := rgBd h
  show (if rgOk 0 (m : Int) then some _ else none) = _
  rw [if_pos r1]
theorem itW_rg2 {a b : Nat} (ha : a ≤ 1000) (hb : b ≤ 1000) : itW .rg2 [(.sh, .int (a : Int)), (.sh, .int (b : Int))] = some (rngI a b) := by
  have r1 : rgOk (a : Int) (b : Int) = true := by simp [rgOk]; omega
  show (if rgOk (a : Int) (b : Int) then some _ else none) = _
  rw [if_pos r1]
theorem itV_rg2 {a b : Nat} (ha : a ≤ 1000) (hb : b ≤ 1000) : itV .rg2 [(.sh, .int (a : Int)), (.sh, .int (b : Int))] = some (rngI a b) := by
  have r1 : rgOk (a : Int) (b : Int) = true := by simp [rgOk]; omega
  show (if rgOk (a : Int) (b : Int) then some _ else none) = _
  rw [if_pos r1]
theorem cm_lt (a b : Int) : cmD .lt (.int a) (.int b) = some (decide (a < b)) := rfl
theorem cm_eq (a b : Int) : cmD .eq (.int a) (.int b) = some (decide (a = b)) := by
  show some (a == b) = _
  rfl
end Ev
set_option Elab.async false
set_option linter.all false
set_option maxRecDepth 100000
set_option maxHeartbeats 400000
namespace Ev
open PySem PySem.Spec PyProof.Rows L2
/-! ### kinds of rows: what shows that a word does not hold -/
section
variable {c : Cc} {env : Env} {s : Sg} {w : Nat}
theorem eq_word {i j : Nat} (h : env[i]? = some (some (false, W w))) (hw : w < 17) (hj : j < 17) : evE c (.cmp .eq (.v i) (.k (W j))) env s = .ok (.sh, .bl (Nat.beq w j)) s := by
  have a : evE c (.v i) env s = .ok (.sh, W w) s := by rw [evE, h]; rfl
  refine cmp_ok (k' := .sh) (y := W j) a rfl ?_
  show (if plainD 60 (W w) && plainD 60 (W j) then some (eqD (W w) (W j)) else none) = _
  rw [plW hw 60, plW hj 60, eqW hw hj]; rfl
theorem in_words {i : Nat} {e : E} {l : List Nat} {k : Kd} {d0 : D} (h : env[i]? = some (some (false, W w))) (hw : w < 17) (hl : Lt l) (hd : d0 = .tup (l.map W) ∨ d0 = .lst (l.map W)) (he : evE c e env s = .ok (k, d0) s) : evE c (.cmp .in_ (.v i) e) env s = .ok (.sh, .bl (has l w)) s := by
  have a : evE c (.v i) env s = .ok (.sh, W w) s := by rw [evE, h]; rfl
  refine cmp_ok a he ?_
  rcases hd with rfl | rfl
  · show (if flatD (W w) && (l.map W).all flatD then some (inD (W w) (l.map W)) else _) = _
    rw [flW hw, flsW hl, inW hw hl]; rfl
  · show (if flatD (W w) && (l.map W).all flatD then some (inD (W w) (l.map W)) else _) = _
    rw [flW hw, flsW hl, inW hw hl]; rfl
end
theorem mul_ok (x y : Int) (h1 : -(2 ^ 64) < y) (h2 : y < 2 ^ 64) : opD .mul (.int x) (.int y) = some (.sh, .int (x * y)) := by
  show (if wideOk x y = true then some (Kd.sh, D.int (x * y)) else none) = _
  rw [if_pos (wideR x y h1 h2)]
theorem lt_of {l : List Nat} (h : (l.all fun i => decide (i < 17)) = true) : Lt l := fun i hi => of_decide_eq_true (List.all_eq_true.mp h i hi)
/-- a row's number at a place -/
abbrev zA (zs : List Int) (i : Nat) : Int := zs.getD i 0
def stepB (zs : List Int) (w i : Nat) : Bool := if zs.length ≤ i + 1 then false else
  if Nat.beq w 15 then !(decide (-1 ≤ zA zs (i + 1) - zA zs i) && decide (zA zs (i + 1) - zA zs i ≤ 1)) else if Nat.beq w 3 then !decide (zA zs (i + 1) - zA zs i = 0) else if Nat.beq w 2 then decide (0 < zA zs (i + 1) - zA zs i) else if Nat.beq w 0 then decide (zA zs (i + 1) - zA zs i < 0) else decide (zA zs (i + 1) - zA zs i ≤ 0)
def stepF : Fn := ⟨4, 3, [(.ifs (.cmp .ge (.op .add (.v 2) (.k (.int 1))) (.bc .len [(.v 0)])) [(.ret (.k (.bl false)))] []),
  (.asg (.nm 3) (.op .sub (.ix (.v 0) (.op .add (.v 2) (.k (.int 1)))) (.ix (.v 0) (.v 2)))),
  (.ifs (.cmp .eq (.v 1) (.k (.str ⟨#[108, 105, 112]⟩))) [(.ret (.not_ (.chn .le .le (.neg (.k (.int 1))) (.v 3) (.k (.int 1)))))] []),
  (.ifs (.cmp .eq (.v 1) (.k (.str ⟨#[99, 111, 110, 115, 116]⟩))) [(.ret (.cmp .ne (.v 3) (.k (.int 0))))] []),
  (.ifs (.cmp .eq (.v 1) (.k (.str ⟨#[102, 97, 108, 108]⟩))) [(.ret (.cmp .gt (.v 3) (.k (.int 0))))] []),
  (.ret (.ite (.cmp .eq (.v 1) (.k (.str ⟨#[114, 105, 115, 101]⟩))) (.cmp .lt (.v 3) (.k (.int 0))) (.cmp .le (.v 3) (.k (.int 0)))))]⟩
section
variable {P : List Fn} {gl : List D} {sb : List (Nat × Nat)} {fuel : Nat} {zs : List Int} {w i j : Nat} {s : Sg}
theorem ret_one {c : Cc} {env : Env} {a : E} {d : D} (h : evE c a env s = .ok (.sh, d) s) : evSs c [.ret a] env s = .rt (.sh, d) s := by
  rw [evSs, ret_sh h]; rfl
theorem ifs_ret {c : Cc} {env : Env} {t a : E} {d : D} {rest : List S} (ht : evE c t env s = .ok (.sh, .bl true) s) (h : evE c a env s = .ok (.sh, d) s) : evSs c (.ifs t [.ret a] [] :: rest) env s = .rt (.sh, d) s := by
  rw [evSs, ifs_t ht, ret_one h]; rfl
theorem ifs_go {c : Cc} {env : Env} {t : E} {a rest : List S} (ht : evE c t env s = .ok (.sh, .bl false) s) : evSs c (.ifs t a [] :: rest) env s = evSs c rest env s := seq_one (ifs0 ht)
theorem ite_ok {c : Cc} {env : Env} {t a b : E} {v : Bool} {x y : Bool} (ht : evE c t env s = .ok (.sh, .bl v) s) (ha : evE c a env s = .ok (.sh, .bl x) s) (hb : evE c b env s = .ok (.sh, .bl y) s) : evE c (.ite t a b) env s = .ok (.sh, .bl (if v then x else y)) s := by
  rw [evE, bind_ok ht]
  cases v
  · exact hb
  · exact ha
theorem c_step {js : Nat} (h : At P js stepF) (n : Nat) (hw : w < 17) (hi : i < zs.length) : evC P gl sb fuel (n + 1) js [(.sh, .tup (zs.map .int)), (.sh, W w), (.sh, .int i)] s = .ok (.sh, .bl (stepB zs w i)) s := by
  rw [open_ h _ _ rfl]
  let c : Cc := ⟨gl, sb, evC P gl sb fuel n, fuel⟩
  let env0 : Env := [some (false, .tup (zs.map .int)), some (false, W w), some (false, .int i), none]
  have t0 : evE c (.cmp .ge (.op .add (.v 2) (.k (.int 1))) (.bc .len [(.v 0)])) env0 s = .ok (.sh, .bl (decide (zs.length ≤ i + 1))) s := by
    have q : decide (((zs.length : Nat) : Int) ≤ (i : Int) + 1) = decide (zs.length ≤ i + 1) := by rw [decide_eq_decide]; omega
    rw [← q]
    simp [evSs, evS, evE, evEs, evTs, evT, Out.bind, Out.sr, lift, SR.seq, ixV, truD, cmD, opD, plainD, eqD, setS, setV, keep, bcD, dat, ixD, optS, asgV, asgVs, asgD, asgDs, backF, Ev.lent, Ev.leaves, testsD, keeps, flatD, inD, itV, itW, isLo, isSeq, itD, owned, Ev.unown, mixed, isFr, Ev.settle, oneI, slD, isiD, augV, flatAt, noEx, env0]
  show backF _ (evSs c stepF.body env0 s) = _
  unfold stepB
  by_cases hn : zs.length ≤ i + 1
  · rw [decide_eq_true hn] at t0
    have q := ifs_ret (rest := stepF.body.drop 1) (a := .k (.bl false)) (d := .bl false) t0 rfl
    rw [if_pos hn]
    show backF _ (evSs c (.ifs _ [.ret (.k (.bl false))] [] :: stepF.body.drop 1) env0 s) = _
    rw [q]; rfl
  · rw [decide_eq_false hn] at t0
    rw [if_neg hn]
    have b0 := atZ (zs := zs) hi
    have b1 := atZ (zs := zs) (j := i + 1) (by omega)
    let st := zA zs (i + 1) - zA zs i
    let env : Env := [some (false, .tup (zs.map .int)), some (false, W w), some (false, .int i), some (false, .int st)]
    have i2 : evE c (.v 2) env0 s = .ok (.sh, .int i) s := rfl
    have i3 : evE c (.op .add (.v 2) (.k (.int 1))) env0 s = .ok (.sh, .int ((i + 1 : Nat) : Int)) s := op_ok (k := .sh) (k' := .sh) (y := .int 1) i2 rfl rfl
    have x1 : evE c (.ix (.v 0) (.op .add (.v 2) (.k (.int 1)))) env0 s = .ok (.sh, .int (zA zs (i + 1))) s := ix_ok (k := .sh) (l := zs.map D.int) (d0 := .tup (zs.map D.int)) (.inl rfl) rfl i3 b1
    have x0 : evE c (.ix (.v 0) (.v 2)) env0 s = .ok (.sh, .int (zA zs i)) s := ix_ok (k := .sh) (l := zs.map D.int) (d0 := .tup (zs.map D.int)) (.inl rfl) rfl i2 b0
    have a1 : evS c (.asg (.nm 3) (.op .sub (.ix (.v 0) (.op .add (.v 2) (.k (.int 1)))) (.ix (.v 0) (.v 2)))) env0 s = .nx env s := asg_sh (op_ok x1 x0 rfl)
    have w1 : env[1]? = some (some (false, W w)) := rfl
    have e15 : evE c (.cmp .eq (.v 1) (.k (.str ⟨#[108, 105, 112]⟩))) env s = .ok (.sh, .bl (Nat.beq w 15)) s := eq_word (j := 15) w1 hw (by decide)
    have e3 : evE c (.cmp .eq (.v 1) (.k (.str ⟨#[99, 111, 110, 115, 116]⟩))) env s = .ok (.sh, .bl (Nat.beq w 3)) s := eq_word (j := 3) w1 hw (by decide)
    have e2 : evE c (.cmp .eq (.v 1) (.k (.str ⟨#[102, 97, 108, 108]⟩))) env s = .ok (.sh, .bl (Nat.beq w 2)) s := eq_word (j := 2) w1 hw (by decide)
    have e0 : evE c (.cmp .eq (.v 1) (.k (.str ⟨#[114, 105, 115, 101]⟩))) env s = .ok (.sh, .bl (Nat.beq w 0)) s := eq_word (j := 0) w1 hw (by decide)
    have r15 : evE c (.not_ (.chn .le .le (.neg (.k (.int 1))) (.v 3) (.k (.int 1)))) env s = .ok (.sh, .bl (!(decide (-1 ≤ st) && decide (st ≤ 1)))) s := by
      refine not_ok ?_
      by_cases h1 : -1 ≤ st <;> simp [evSs, evS, evE, evEs, evTs, evT, Out.bind, Out.sr, lift, SR.seq, ixV, truD, cmD, opD, plainD, eqD, setS, setV, keep, bcD, dat, ixD, optS, asgV, asgVs, asgD, asgDs, backF, Ev.lent, Ev.leaves, testsD, keeps, flatD, inD, itV, itW, isLo, isSeq, itD, owned, Ev.unown, mixed, isFr, Ev.settle, oneI, slD, isiD, augV, flatAt, noEx, env, h1]
    have r3 : evE c (.cmp .ne (.v 3) (.k (.int 0))) env s = .ok (.sh, .bl (!decide (st = 0))) s := cmp_ok (k := .sh) (k' := .sh) (x := .int st) (y := .int 0) rfl rfl rfl
    have r2 : evE c (.cmp .gt (.v 3) (.k (.int 0))) env s = .ok (.sh, .bl (decide (0 < st))) s := rfl
    have r0 : evE c (.ite (.cmp .eq (.v 1) (.k (.str ⟨#[114, 105, 115, 101]⟩))) (.cmp .lt (.v 3) (.k (.int 0))) (.cmp .le (.v 3) (.k (.int 0)))) env s = .ok (.sh, .bl (if Nat.beq w 0 then decide (st < 0) else decide (st ≤ 0))) s := ite_ok e0 rfl rfl
    show backF _ (evSs c [.ifs _ _ [], .asg (.nm 3) _, _, _, _, _] env0 s) = _
    rw [ifs_go t0, seq_one a1]
    show backF _ (evSs c [.ifs _ [.ret _] [], .ifs _ [.ret _] [], .ifs _ [.ret _] [], .ret _] env s) = .ok (.sh, .bl (if Nat.beq w 15 then !(decide (-1 ≤ st) && decide (st ≤ 1)) else if Nat.beq w 3 then !decide (st = 0) else if Nat.beq w 2 then decide (0 < st) else if Nat.beq w 0 then decide (st < 0) else decide (st ≤ 0))) s
    cases h15 : Nat.beq w 15 with
    | true => rw [h15] at e15; rw [ifs_ret e15 r15]; rfl
    | false =>
      rw [h15] at e15; rw [ifs_go e15]
      cases h3 : Nat.beq w 3 with
      | true => rw [h3] at e3; rw [ifs_ret e3 r3]; rfl
      | false =>
        rw [h3] at e3; rw [ifs_go e3]
        cases h2 : Nat.beq w 2 with
        | true => rw [h2] at e2; rw [ifs_ret e2 r2]; rfl
        | false => rw [h2] at e2; rw [ifs_go e2, ret_one r0]; rfl
/-! ### bends -/
def midB (zs : List Int) (i : Nat) : Bool := decide (0 < i) && decide (i + 1 < zs.length)
def bendV (zs : List Int) (w i : Nat) : Int := if has [7, 8] w then zA zs (i - 1) * zA zs (i + 1) - zA zs i * zA zs i else zA zs (i - 1) + zA zs (i + 1) - 2 * zA zs i
def bendB (zs : List Int) (w i : Nat) : Bool := if midB zs i then (if Nat.beq w 4 then !decide (bendV zs w i = 0) else if has [5, 8] w then decide (bendV zs w i < 0) else decide (0 < bendV zs w i)) else false
def bendF : Fn := ⟨7, 3, [(.ifs (.not_ (.chn .lt .lt (.k (.int 0)) (.v 2) (.op .sub (.bc .len [(.v 0)]) (.k (.int 1))))) [(.ret (.k (.bl false)))] []),
  (.par [(.nm 3), (.nm 4), (.nm 5)] [(.ix (.v 0) (.op .sub (.v 2) (.k (.int 1)))), (.ix (.v 0) (.v 2)), (.ix (.v 0) (.op .add (.v 2) (.k (.int 1))))]),
  (.ifs (.cmp .in_ (.v 1) (.tup [(.k (.str ⟨#[108, 111, 103, 99]⟩)), (.k (.str ⟨#[108, 111, 103, 120]⟩))])) [(.asg (.nm 6) (.op .sub (.op .mul (.v 3) (.v 5)) (.op .mul (.v 4) (.v 4))))] [(.asg (.nm 6) (.op .sub (.op .add (.v 3) (.v 5)) (.op .mul (.k (.int 2)) (.v 4))))]),
  (.ifs (.cmp .eq (.v 1) (.k (.str ⟨#[101, 118, 101, 110]⟩))) [(.ret (.cmp .ne (.v 6) (.k (.int 0))))] []),
  (.ret (.ite (.cmp .in_ (.v 1) (.tup [(.k (.str ⟨#[99, 111, 110, 118, 101, 120]⟩)), (.k (.str ⟨#[108, 111, 103, 120]⟩))])) (.cmp .lt (.v 6) (.k (.int 0))) (.cmp .gt (.v 6) (.k (.int 0)))))]⟩
/-- a row's numbers are small -/
theorem zA_b (hz : Row zs) (hi : i < zs.length) : -1000 ≤ zA zs i ∧ zA zs i ≤ 1000 := hz.2.2 _ (getD_mem hi)
theorem mid_ok {c : Cc} {env : Env} (h0 : env[0]? = some (some (false, .tup (zs.map .int)))) (h2 : env[2]? = some (some (false, .int i))) : evE c (.chn .lt .lt (.k (.int 0)) (.v 2) (.op .sub (.bc .len [(.v 0)]) (.k (.int 1)))) env s = .ok (.sh, .bl (midB zs i)) s := by
  have q : midB zs i = (decide ((0 : Int) < i) && decide ((i : Int) < (zs.length : Int) - 1)) := by
    unfold midB
    have a : decide (0 < i) = decide ((0 : Int) < i) := by rw [decide_eq_decide]; omega
    have b : decide (i + 1 < zs.length) = decide ((i : Int) < (zs.length : Int) - 1) := by rw [decide_eq_decide]; omega
    rw [a, b]
  rw [q]
  by_cases h : (0 : Int) < i
  · simp [evSs, evS, evE, evEs, evTs, evT, Out.bind, Out.sr, lift, SR.seq, ixV, truD, cmD, opD, plainD, eqD, setS, setV, keep, bcD, dat, ixD, optS, asgV, asgVs, asgD, asgDs, backF, Ev.lent, Ev.leaves, testsD, keeps, flatD, inD, itV, itW, isLo, isSeq, itD, owned, Ev.unown, mixed, isFr, Ev.settle, oneI, slD, isiD, augV, flatAt, noEx, h0, h2, h]
    have h' : 0 < i := by omega
    simp [h']
  · have h' : ¬ 0 < i := by omega
    simp [evSs, evS, evE, evEs, evTs, evT, Out.bind, Out.sr, lift, SR.seq, ixV, truD, cmD, opD, plainD, eqD, setS, setV, keep, bcD, dat, ixD, optS, asgV, asgVs, asgD, asgDs, backF, Ev.lent, Ev.leaves, testsD, keeps, flatD, inD, itV, itW, isLo, isSeq, itD, owned, Ev.unown, mixed, isFr, Ev.settle, oneI, slD, isiD, augV, flatAt, noEx, h0, h2, h, h']
theorem c_bend {jb : Nat} (h : At P jb bendF) (n : Nat) (hz : Row zs) (hw : w < 17) (hi : i < zs.length) : evC P gl sb fuel (n + 1) jb [(.sh, .tup (zs.map .int)), (.sh, W w), (.sh, .int i)] s = .ok (.sh, .bl (bendB zs w i)) s := by
  rw [open_ h _ _ rfl]
  let c : Cc := ⟨gl, sb, evC P gl sb fuel n, fuel⟩
  let env0 : Env := [some (false, .tup (zs.map .int)), some (false, W w), some (false, .int i), none, none, none, none]
  have t0 := not_ok (mid_ok (c := c) (env := env0) (zs := zs) (i := i) (s := s) rfl rfl)
  show backF _ (evSs c [.ifs _ [.ret (.k (.bl false))] [], _, _, _, _] env0 s) = _
  unfold bendB
  cases hm : midB zs i with
  | false =>
    rw [hm] at t0
    rw [ifs_ret (d := .bl false) t0 rfl]; rfl
  | true =>
    rw [hm] at t0
    rw [ifs_go t0]
    have hm' : 0 < i ∧ i + 1 < zs.length := by unfold midB at hm; simpa using hm
    have b0 := atZ (zs := zs) hi
    have b1 := atZ (zs := zs) (j := i + 1) hm'.2
    have b2 := atZ (zs := zs) (j := i - 1) (by omega)
    have i2 : evE c (.v 2) env0 s = .ok (.sh, .int i) s := rfl
    have i3 : evE c (.op .add (.v 2) (.k (.int 1))) env0 s = .ok (.sh, .int ((i + 1 : Nat) : Int)) s := op_ok (k := .sh) (k' := .sh) (y := .int 1) i2 rfl rfl
    have i4 : evE c (.op .sub (.v 2) (.k (.int 1))) env0 s = .ok (.sh, .int ((i - 1 : Nat) : Int)) s := by
      have : ((i - 1 : Nat) : Int) = (i : Int) - 1 := by omega
      rw [this]
      exact op_ok (k := .sh) (k' := .sh) (y := .int 1) i2 rfl rfl
    have x1 : evE c (.ix (.v 0) (.op .add (.v 2) (.k (.int 1)))) env0 s = .ok (.sh, .int (zA zs (i + 1))) s := ix_ok (k := .sh) (l := zs.map D.int) (d0 := .tup (zs.map D.int)) (.inl rfl) rfl i3 b1
    have x0 : evE c (.ix (.v 0) (.v 2)) env0 s = .ok (.sh, .int (zA zs i)) s := ix_ok (k := .sh) (l := zs.map D.int) (d0 := .tup (zs.map D.int)) (.inl rfl) rfl i2 b0
    have x2 : evE c (.ix (.v 0) (.op .sub (.v 2) (.k (.int 1)))) env0 s = .ok (.sh, .int (zA zs (i - 1))) s := ix_ok (k := .sh) (l := zs.map D.int) (d0 := .tup (zs.map D.int)) (.inl rfl) rfl i4 b2
    have y0 := zA_b hz hi
    have y1 := zA_b hz (i := i + 1) hm'.2
    let env : Env := [some (false, .tup (zs.map .int)), some (false, W w), some (false, .int i), some (false, .int (zA zs (i - 1))), some (false, .int (zA zs i)), some (false, .int (zA zs (i + 1))), none]
    let env' : Env := [some (false, .tup (zs.map .int)), some (false, W w), some (false, .int i), some (false, .int (zA zs (i - 1))), some (false, .int (zA zs i)), some (false, .int (zA zs (i + 1))), some (false, .int (bendV zs w i))]
    have a1 : evS c (.par [(.nm 3), (.nm 4), (.nm 5)] [(.ix (.v 0) (.op .sub (.v 2) (.k (.int 1)))), (.ix (.v 0) (.v 2)), (.ix (.v 0) (.op .add (.v 2) (.k (.int 1))))]) env0 s = .nx env s := by
      rw [evS, evEs, bind_ok x2, evEs, bind_ok x0, evEs, bind_ok x1]; rfl
    have w1 : env[1]? = some (some (false, W w)) := rfl
    have w1' : env'[1]? = some (some (false, W w)) := rfl
    have t1 : evE c (.cmp .in_ (.v 1) (.tup [(.k (.str ⟨#[108, 111, 103, 99]⟩)), (.k (.str ⟨#[108, 111, 103, 120]⟩))])) env s = .ok (.sh, .bl (has [7, 8] w)) s := in_words (l := [7, 8]) (k := .sh) w1 hw (lt_of (by decide)) (.inl rfl) rfl
    have a2 : evS c (.ifs (.cmp .in_ (.v 1) (.tup [(.k (.str ⟨#[108, 111, 103, 99]⟩)), (.k (.str ⟨#[108, 111, 103, 120]⟩))])) [(.asg (.nm 6) (.op .sub (.op .mul (.v 3) (.v 5)) (.op .mul (.v 4) (.v 4))))] [(.asg (.nm 6) (.op .sub (.op .add (.v 3) (.v 5)) (.op .mul (.k (.int 2)) (.v 4))))]) env s = .nx env' s := by
      cases hh : has [7, 8] w with
      | true =>
        rw [hh] at t1
        have v : bendV zs w i = zA zs (i - 1) * zA zs (i + 1) - zA zs i * zA zs i := by unfold bendV; rw [hh]; rfl
        have m : evS c (.asg (.nm 6) (.op .sub (.op .mul (.v 3) (.v 5)) (.op .mul (.v 4) (.v 4)))) env s = .nx env' s := by
          refine (asg_sh (d := .int (bendV zs w i)) ?_)
          rw [v]
          exact op_ok (k := .sh) (k' := .sh) (op_ok (k := .sh) (k' := .sh) (x := .int (zA zs (i - 1))) (y := .int (zA zs (i + 1))) rfl rfl (mul_ok _ _ (by omega) (by omega))) (op_ok (k := .sh) (k' := .sh) (x := .int (zA zs i)) (y := .int (zA zs i)) rfl rfl (mul_ok _ _ (by omega) (by omega))) rfl
        rw [ifs_t t1, seq_one m]; rfl
      | false =>
        rw [hh] at t1
        have v : bendV zs w i = zA zs (i - 1) + zA zs (i + 1) - 2 * zA zs i := by unfold bendV; rw [hh]; rfl
        have m : evS c (.asg (.nm 6) (.op .sub (.op .add (.v 3) (.v 5)) (.op .mul (.k (.int 2)) (.v 4)))) env s = .nx env' s := by
          refine (asg_sh (d := .int (bendV zs w i)) ?_)
          rw [v]
          exact op_ok (k := .sh) (k' := .sh) (x := .int (zA zs (i - 1) + zA zs (i + 1))) rfl (op_ok (k := .sh) (k' := .sh) (x := .int 2) (y := .int (zA zs i)) rfl rfl (mul_ok _ _ (by omega) (by omega))) rfl
        rw [ifs_f t1, seq_one m]; rfl
    have e4 : evE c (.cmp .eq (.v 1) (.k (.str ⟨#[101, 118, 101, 110]⟩))) env' s = .ok (.sh, .bl (Nat.beq w 4)) s := eq_word (j := 4) w1' hw (by decide)
    have e5 : evE c (.cmp .in_ (.v 1) (.tup [(.k (.str ⟨#[99, 111, 110, 118, 101, 120]⟩)), (.k (.str ⟨#[108, 111, 103, 120]⟩))])) env' s = .ok (.sh, .bl (has [5, 8] w)) s := in_words (l := [5, 8]) (k := .sh) w1' hw (lt_of (by decide)) (.inl rfl) rfl
    have r4 : evE c (.cmp .ne (.v 6) (.k (.int 0))) env' s = .ok (.sh, .bl (!decide (bendV zs w i = 0))) s := cmp_ok (k := .sh) (k' := .sh) (x := .int (bendV zs w i)) (y := .int 0) rfl rfl rfl
    have r5 := ite_ok (a := .cmp .lt (.v 6) (.k (.int 0))) (b := .cmp .gt (.v 6) (.k (.int 0))) (x := decide (bendV zs w i < 0)) (y := decide (0 < bendV zs w i)) e5 rfl rfl
    rw [seq_one a1, seq_one a2]
    cases h4 : Nat.beq w 4 with
    | true => rw [h4] at e4; rw [ifs_ret e4 r4]; rfl
    | false => rw [h4] at e4; rw [ifs_go e4, ret_one r5]; rfl
end
end Ev
set_option Elab.async false
set_option linter.all false
set_option maxRecDepth 100000
set_option maxHeartbeats 400000
namespace Ev
open PySem PySem.Spec PyProof.Rows L2
def placeB (zs : List Int) (w i : Nat) : Bool := if Nat.beq w 9 then !decide (zA zs i = zA zs (zs.length - 1 - i)) else if Nat.beq w 14 then decide (zA zs i ≤ 0) else if Nat.beq w 16 then decide (zA zs (zs.length - 1) < zA zs i) else (midB zs i && decide (zA zs (i + 1) * i < zA zs i * ((i : Int) + 1)))
def placeF : Fn := ⟨4, 3, [(.asg (.nm 3) (.ix (.v 0) (.v 2))),
  (.ifs (.cmp .eq (.v 1) (.k (.str ⟨#[109, 105, 114, 114, 111, 114]⟩))) [(.ret (.cmp .ne (.v 3) (.ix (.v 0) (.op .sub (.op .sub (.bc .len [(.v 0)]) (.k (.int 1))) (.v 2)))))] []),
  (.ifs (.cmp .eq (.v 1) (.k (.str ⟨#[112, 111, 115]⟩))) [(.ret (.cmp .le (.v 3) (.k (.int 0))))] []),
  (.ifs (.cmp .eq (.v 1) (.k (.str ⟨#[108, 97, 115, 116]⟩))) [(.ret (.cmp .gt (.v 3) (.ix (.v 0) (.neg (.k (.int 1))))))] []),
  (.ret (.and_ (.chn .lt .lt (.k (.int 0)) (.v 2) (.op .sub (.bc .len [(.v 0)]) (.k (.int 1)))) (.cmp .gt (.op .mul (.v 3) (.op .add (.v 2) (.k (.int 1)))) (.op .mul (.ix (.v 0) (.op .add (.v 2) (.k (.int 1)))) (.v 2)))))]⟩
def pairB (zs : List Int) (w i j : Nat) : Bool := if zs.length ≤ i + j then false else if Nat.beq w 10 then decide (zA zs i + zA zs j < zA zs (i + j)) else decide (zA zs (i + j) < zA zs i + zA zs j)
def pairF : Fn := ⟨6, 4, [(.ifs (.cmp .ge (.op .add (.v 2) (.v 3)) (.bc .len [(.v 0)])) [(.ret (.k (.bl false)))] []),
  (.par [(.nm 4), (.nm 5)] [(.ix (.v 0) (.op .add (.v 2) (.v 3))), (.op .add (.ix (.v 0) (.v 2)) (.ix (.v 0) (.v 3)))]),
  (.ret (.ite (.cmp .eq (.v 1) (.k (.str ⟨#[115, 117, 98]⟩))) (.cmp .gt (.v 4) (.v 5)) (.cmp .lt (.v 4) (.v 5))))]⟩
def itB (zs : List Int) (w i : Nat) : Bool := if Nat.beq w 13 then (decide (i = 0) && !decide (zA zs 0 = 0)) else if has [0, 1, 2, 3, 15] w then stepB zs w i else if has [4, 5, 6] w then bendB zs w i else if has [7, 8] w then (decide (zA zs i ≤ 0) || bendB zs w i) else placeB zs w i
def itF (js jb jp g3 g4 : Nat) : Fn := ⟨3, 3, [(.ifs (.cmp .eq (.v 1) (.k (.str ⟨#[122, 101, 114, 111]⟩))) [(.ret (.and_ (.cmp .eq (.v 2) (.k (.int 0))) (.cmp .ne (.ix (.v 0) (.k (.int 0))) (.k (.int 0)))))] []),
  (.ifs (.cmp .in_ (.v 1) (.g g3)) [(.ret (.call js [(.v 0), (.v 1), (.v 2)]))] []),
  (.ifs (.cmp .in_ (.v 1) (.g g4)) [(.ret (.call jb [(.v 0), (.v 1), (.v 2)]))] []),
  (.ifs (.cmp .in_ (.v 1) (.tup [(.k (.str ⟨#[108, 111, 103, 99]⟩)), (.k (.str ⟨#[108, 111, 103, 120]⟩))])) [(.ret (.or_ (.cmp .le (.ix (.v 0) (.v 2)) (.k (.int 0))) (.call jb [(.v 0), (.v 1), (.v 2)])))] []),
  (.ret (.call jp [(.v 0), (.v 1), (.v 2)]))]⟩
section
variable {P : List Fn} {gl : List D} {sb : List (Nat × Nat)} {fuel : Nat} {zs : List Int} {w i j : Nat} {s : Sg}
theorem at_last (h : 0 < zs.length) : L2.atI (zs.map D.int) (-1) = some (.int (zA zs (zs.length - 1))) := by
  have q : ((zs.length : Int) + -1).toNat = zs.length - 1 := by omega
  rw [atI_map]
  unfold L2.atI ixN
  rw [if_neg (by decide), if_pos (by omega)]
  show (zs[((zs.length : Int) + -1).toNat]?).map D.int = _
  rw [q, List.getElem?_eq_getElem (by omega)]
  show some (D.int zs[zs.length - 1]) = _
  rw [← getD_get (by omega)]
theorem c_place {jp : Nat} (h : At P jp placeF) (n : Nat) (hz : Row zs) (hw : w < 17) (hi : i < zs.length) : evC P gl sb fuel (n + 1) jp [(.sh, .tup (zs.map .int)), (.sh, W w), (.sh, .int i)] s = .ok (.sh, .bl (placeB zs w i)) s := by
  rw [open_ h _ _ rfl]
  have l2 := hz.2.1
  let c : Cc := ⟨gl, sb, evC P gl sb fuel n, fuel⟩
  let env0 : Env := [some (false, .tup (zs.map .int)), some (false, W w), some (false, .int i), none]
  let env : Env := [some (false, .tup (zs.map .int)), some (false, W w), some (false, .int i), some (false, .int (zA zs i))]
  have x0 : evE c (.ix (.v 0) (.v 2)) env0 s = .ok (.sh, .int (zA zs i)) s := ix_ok (k := .sh) (k' := .sh) (j := i) (l := zs.map D.int) (d0 := .tup (zs.map D.int)) (.inl rfl) rfl rfl (atZ hi)
  have a1 : evS c (.asg (.nm 3) (.ix (.v 0) (.v 2))) env0 s = .nx env s := asg_sh x0
  have w1 : env[1]? = some (some (false, W w)) := rfl
  have e9 : evE c (.cmp .eq (.v 1) (.k (.str ⟨#[109, 105, 114, 114, 111, 114]⟩))) env s = .ok (.sh, .bl (Nat.beq w 9)) s := eq_word (j := 9) w1 hw (by decide)
  have e14 : evE c (.cmp .eq (.v 1) (.k (.str ⟨#[112, 111, 115]⟩))) env s = .ok (.sh, .bl (Nat.beq w 14)) s := eq_word (j := 14) w1 hw (by decide)
  have e16 : evE c (.cmp .eq (.v 1) (.k (.str ⟨#[108, 97, 115, 116]⟩))) env s = .ok (.sh, .bl (Nat.beq w 16)) s := eq_word (j := 16) w1 hw (by decide)
  have i9 : evE c (.op .sub (.op .sub (.bc .len [(.v 0)]) (.k (.int 1))) (.v 2)) env s = .ok (.sh, .int ((zs.length - 1 - i : Nat) : Int)) s := by
    have : ((zs.length - 1 - i : Nat) : Int) = (zs.length : Int) - 1 - i := by omega
    rw [this]
    simp [evSs, evS, evE, evEs, evTs, evT, Out.bind, Out.sr, lift, SR.seq, ixV, truD, cmD, opD, plainD, eqD, setS, setV, keep, bcD, dat, ixD, optS, asgV, asgVs, asgD, asgDs, backF, Ev.lent, Ev.leaves, testsD, keeps, flatD, inD, itV, itW, isLo, isSeq, itD, owned, Ev.unown, mixed, isFr, Ev.settle, oneI, slD, isiD, augV, flatAt, noEx, env]
  have x9 : evE c (.ix (.v 0) (.op .sub (.op .sub (.bc .len [(.v 0)]) (.k (.int 1))) (.v 2))) env s = .ok (.sh, .int (zA zs (zs.length - 1 - i))) s := ix_ok (k := .sh) (l := zs.map D.int) (d0 := .tup (zs.map D.int)) (.inl rfl) rfl i9 (atZ (by omega))
  have r9 : evE c (.cmp .ne (.v 3) (.ix (.v 0) (.op .sub (.op .sub (.bc .len [(.v 0)]) (.k (.int 1))) (.v 2)))) env s = .ok (.sh, .bl (!decide (zA zs i = zA zs (zs.length - 1 - i)))) s := cmp_ok (k := .sh) (x := .int (zA zs i)) rfl x9 rfl
  have r14 : evE c (.cmp .le (.v 3) (.k (.int 0))) env s = .ok (.sh, .bl (decide (zA zs i ≤ 0))) s := rfl
  have x16 : evE c (.ix (.v 0) (.neg (.k (.int 1)))) env s = .ok (.sh, .int (zA zs (zs.length - 1))) s := ix_ok (k := .sh) (k' := .sh) (j := -1) (l := zs.map D.int) (d0 := .tup (zs.map D.int)) (.inl rfl) rfl rfl (at_last (by omega))
  have r16 : evE c (.cmp .gt (.v 3) (.ix (.v 0) (.neg (.k (.int 1))))) env s = .ok (.sh, .bl (decide (zA zs (zs.length - 1) < zA zs i))) s := cmp_ok (k := .sh) (x := .int (zA zs i)) rfl x16 rfl
  have tm := mid_ok (c := c) (env := env) (zs := zs) (i := i) (s := s) rfl rfl
  have r0 : evE c (.and_ (.chn .lt .lt (.k (.int 0)) (.v 2) (.op .sub (.bc .len [(.v 0)]) (.k (.int 1)))) (.cmp .gt (.op .mul (.v 3) (.op .add (.v 2) (.k (.int 1)))) (.op .mul (.ix (.v 0) (.op .add (.v 2) (.k (.int 1)))) (.v 2)))) env s = .ok (.sh, .bl (midB zs i && decide (zA zs (i + 1) * i < zA zs i * ((i : Int) + 1)))) s := by
    cases hm : midB zs i with
    | false => rw [hm] at tm; rw [and_f tm]; rfl
    | true =>
      rw [hm] at tm
      have hm' : 0 < i ∧ i + 1 < zs.length := by unfold midB at hm; simpa using hm
      rw [and_t tm]
      have i3 : evE c (.op .add (.v 2) (.k (.int 1))) env s = .ok (.sh, .int ((i + 1 : Nat) : Int)) s := op_ok (k := .sh) (k' := .sh) (x := .int i) (y := .int 1) rfl rfl rfl
      have x1 : evE c (.ix (.v 0) (.op .add (.v 2) (.k (.int 1)))) env s = .ok (.sh, .int (zA zs (i + 1))) s := ix_ok (k := .sh) (l := zs.map D.int) (d0 := .tup (zs.map D.int)) (.inl rfl) rfl i3 (atZ hm'.2)
      have m1 : evE c (.op .mul (.v 3) (.op .add (.v 2) (.k (.int 1)))) env s = .ok (.sh, .int (zA zs i * ((i + 1 : Nat) : Int))) s := op_ok (k := .sh) (x := .int (zA zs i)) rfl i3 (mul_ok _ _ (by omega) (by omega))
      have m2 : evE c (.op .mul (.ix (.v 0) (.op .add (.v 2) (.k (.int 1)))) (.v 2)) env s = .ok (.sh, .int (zA zs (i + 1) * (i : Int))) s := op_ok (k' := .sh) (y := .int i) x1 rfl (mul_ok _ _ (by omega) (by omega))
      exact cmp_ok m1 m2 rfl
  show backF _ (evSs c [_, .ifs _ [.ret _] [], .ifs _ [.ret _] [], .ifs _ [.ret _] [], .ret _] env0 s) = _
  rw [seq_one a1]
  unfold placeB
  cases h9 : Nat.beq w 9 with
  | true => rw [h9] at e9; rw [ifs_ret e9 r9]; rfl
  | false =>
    rw [h9] at e9; rw [ifs_go e9]
    cases h14 : Nat.beq w 14 with
    | true => rw [h14] at e14; rw [ifs_ret e14 r14]; rfl
    | false =>
      rw [h14] at e14; rw [ifs_go e14]
      cases h16 : Nat.beq w 16 with
      | true => rw [h16] at e16; rw [ifs_ret e16 r16]; rfl
      | false => rw [h16] at e16; rw [ifs_go e16, ret_one r0]; rfl
theorem c_pair {jp : Nat} (h : At P jp pairF) (n : Nat) (hz : Row zs) (hw : w < 17) (hi : i < zs.length) (hj : j < zs.length) : evC P gl sb fuel (n + 1) jp [(.sh, .tup (zs.map .int)), (.sh, W w), (.sh, .int i), (.sh, .int j)] s = .ok (.sh, .bl (pairB zs w i j)) s := by
  rw [open_ h _ _ rfl]
  let c : Cc := ⟨gl, sb, evC P gl sb fuel n, fuel⟩
  let env0 : Env := [some (false, .tup (zs.map .int)), some (false, W w), some (false, .int i), some (false, .int j), none, none]
  have ij : evE c (.op .add (.v 2) (.v 3)) env0 s = .ok (.sh, .int ((i + j : Nat) : Int)) s := op_ok (k := .sh) (k' := .sh) (x := .int i) (y := .int j) rfl rfl rfl
  have t0 : evE c (.cmp .ge (.op .add (.v 2) (.v 3)) (.bc .len [(.v 0)])) env0 s = .ok (.sh, .bl (decide (zs.length ≤ i + j))) s := by
    have q : decide (((zs.length : Nat) : Int) ≤ ((i + j : Nat) : Int)) = decide (zs.length ≤ i + j) := by rw [decide_eq_decide]; omega
    rw [← q]
    refine cmp_ok (k' := .sh) (y := .int zs.length) ij ?_ rfl
    simp [evSs, evS, evE, evEs, evTs, evT, Out.bind, Out.sr, lift, SR.seq, ixV, truD, cmD, opD, plainD, eqD, setS, setV, keep, bcD, dat, ixD, optS, asgV, asgVs, asgD, asgDs, backF, Ev.lent, Ev.leaves, testsD, keeps, flatD, inD, itV, itW, isLo, isSeq, itD, owned, Ev.unown, mixed, isFr, Ev.settle, oneI, slD, isiD, augV, flatAt, noEx, env0]
  show backF _ (evSs c [.ifs _ [.ret (.k (.bl false))] [], _, .ret _] env0 s) = _
  unfold pairB
  by_cases hn : zs.length ≤ i + j
  · rw [decide_eq_true hn] at t0
    rw [ifs_ret (d := .bl false) t0 rfl, if_pos hn]; rfl
  · rw [decide_eq_false hn] at t0
    rw [ifs_go t0, if_neg hn]
    let env : Env := [some (false, .tup (zs.map .int)), some (false, W w), some (false, .int i), some (false, .int j), some (false, .int (zA zs (i + j))), some (false, .int (zA zs i + zA zs j))]
    have x1 : evE c (.ix (.v 0) (.op .add (.v 2) (.v 3))) env0 s = .ok (.sh, .int (zA zs (i + j))) s := ix_ok (k := .sh) (l := zs.map D.int) (d0 := .tup (zs.map D.int)) (.inl rfl) rfl ij (atZ (by omega))
    have x2 : evE c (.ix (.v 0) (.v 2)) env0 s = .ok (.sh, .int (zA zs i)) s := ix_ok (k := .sh) (k' := .sh) (j := i) (l := zs.map D.int) (d0 := .tup (zs.map D.int)) (.inl rfl) rfl rfl (atZ hi)
    have x3 : evE c (.ix (.v 0) (.v 3)) env0 s = .ok (.sh, .int (zA zs j)) s := ix_ok (k := .sh) (k' := .sh) (j := j) (l := zs.map D.int) (d0 := .tup (zs.map D.int)) (.inl rfl) rfl rfl (atZ hj)
    have x4 : evE c (.op .add (.ix (.v 0) (.v 2)) (.ix (.v 0) (.v 3))) env0 s = .ok (.sh, .int (zA zs i + zA zs j)) s := op_ok x2 x3 rfl
    have a1 : evS c (.par [(.nm 4), (.nm 5)] [(.ix (.v 0) (.op .add (.v 2) (.v 3))), (.op .add (.ix (.v 0) (.v 2)) (.ix (.v 0) (.v 3)))]) env0 s = .nx env s := by
      rw [evS, evEs, bind_ok x1, evEs, bind_ok x4]; rfl
    have w1 : env[1]? = some (some (false, W w)) := rfl
    have e10 : evE c (.cmp .eq (.v 1) (.k (.str ⟨#[115, 117, 98]⟩))) env s = .ok (.sh, .bl (Nat.beq w 10)) s := eq_word (j := 10) w1 hw (by decide)
    have r := ite_ok (a := .cmp .gt (.v 4) (.v 5)) (b := .cmp .lt (.v 4) (.v 5)) (x := decide (zA zs i + zA zs j < zA zs (i + j))) (y := decide (zA zs (i + j) < zA zs i + zA zs j)) e10 rfl rfl
    rw [seq_one a1, ret_one r]; rfl
end
/-- the numbers of the defs about kinds -/
structure Kn (P : List Fn) (gl : List D) (js jb jp jq ji g3 g4 : Nat) : Prop where
  hs : At P js stepF
  hb : At P jb bendF
  hp : At P jp placeF
  hq : At P jq pairF
  hi : At P ji (itF js jb jp g3 g4)
  h3 : gl[g3]? = some (stD [0, 1, 2, 3, 15])
  h4 : gl[g4]? = some (stD [4, 5, 6])
section
variable {P : List Fn} {gl : List D} {sb : List (Nat × Nat)} {fuel : Nat} {zs : List Int} {w i j : Nat} {s : Sg} {js jb jp jq ji g3 g4 : Nat}
theorem c_it (I : Kn P gl js jb jp jq ji g3 g4) (n : Nat) (hz : Row zs) (hw : w < 17) (hi : i < zs.length) : evC P gl sb fuel (n + 2) ji [(.sh, .tup (zs.map .int)), (.sh, W w), (.sh, .int i)] s = .ok (.sh, .bl (itB zs w i)) s := by
  rw [open_ I.hi _ _ rfl]
  let c : Cc := ⟨gl, sb, evC P gl sb fuel (n + 1), fuel⟩
  let env : Env := [some (false, .tup (zs.map .int)), some (false, W w), some (false, .int i)]
  have w1 : env[1]? = some (some (false, W w)) := rfl
  have e13 : evE c (.cmp .eq (.v 1) (.k (.str ⟨#[122, 101, 114, 111]⟩))) env s = .ok (.sh, .bl (Nat.beq w 13)) s := eq_word (j := 13) w1 hw (by decide)
  have g3' : evE c (.g g3) env s = .ok (.sh, .tup ([0, 1, 2, 3, 15].map W)) s := by rw [evE, I.h3]; rfl
  have g4' : evE c (.g g4) env s = .ok (.sh, .tup ([4, 5, 6].map W)) s := by rw [evE, I.h4]; rfl
  have e3 : evE c (.cmp .in_ (.v 1) (.g g3)) env s = .ok (.sh, .bl (has [0, 1, 2, 3, 15] w)) s := in_words w1 hw (lt_of (by decide)) (.inl rfl) g3'
  have e4 : evE c (.cmp .in_ (.v 1) (.g g4)) env s = .ok (.sh, .bl (has [4, 5, 6] w)) s := in_words w1 hw (lt_of (by decide)) (.inl rfl) g4'
  have e7 : evE c (.cmp .in_ (.v 1) (.tup [(.k (.str ⟨#[108, 111, 103, 99]⟩)), (.k (.str ⟨#[108, 111, 103, 120]⟩))])) env s = .ok (.sh, .bl (has [7, 8] w)) s := in_words (l := [7, 8]) (k := .sh) w1 hw (lt_of (by decide)) (.inl rfl) rfl
  have z0 : evE c (.ix (.v 0) (.k (.int 0))) env s = .ok (.sh, .int (zA zs 0)) s := ix_ok (k := .sh) (k' := .sh) (j := ((0 : Nat) : Int)) (l := zs.map D.int) (d0 := .tup (zs.map D.int)) (.inl rfl) rfl rfl (atZ (by omega))
  have zi : evE c (.ix (.v 0) (.v 2)) env s = .ok (.sh, .int (zA zs i)) s := ix_ok (k := .sh) (k' := .sh) (j := i) (l := zs.map D.int) (d0 := .tup (zs.map D.int)) (.inl rfl) rfl rfl (atZ hi)
  have r13 : evE c (.and_ (.cmp .eq (.v 2) (.k (.int 0))) (.cmp .ne (.ix (.v 0) (.k (.int 0))) (.k (.int 0)))) env s = .ok (.sh, .bl (decide (i = 0) && !decide (zA zs 0 = 0))) s := by
    have q : decide (i = 0) = decide ((i : Int) = 0) := by rw [decide_eq_decide]; omega
    rw [q]
    exact and2 (cmp_ok (k := .sh) (k' := .sh) (x := .int i) (y := .int 0) rfl rfl (cm_eq _ _)) (cmp_ok (k' := .sh) (y := .int 0) z0 rfl rfl)
  have rs : evE c (.call js [(.v 0), (.v 1), (.v 2)]) env s = .ok (.sh, .bl (stepB zs w i)) s := call3 rfl rfl rfl (c_step I.hs n hw hi)
  have rb : evE c (.call jb [(.v 0), (.v 1), (.v 2)]) env s = .ok (.sh, .bl (bendB zs w i)) s := call3 rfl rfl rfl (c_bend I.hb n hz hw hi)
  have rp : evE c (.call jp [(.v 0), (.v 1), (.v 2)]) env s = .ok (.sh, .bl (placeB zs w i)) s := call3 rfl rfl rfl (c_place I.hp n hz hw hi)
  have rl : evE c (.or_ (.cmp .le (.ix (.v 0) (.v 2)) (.k (.int 0))) (.call jb [(.v 0), (.v 1), (.v 2)])) env s = .ok (.sh, .bl (decide (zA zs i ≤ 0) || bendB zs w i)) s := or2 (cmp_ok (k' := .sh) (y := .int 0) zi rfl rfl) rb
  show backF _ (evSs c [.ifs _ [.ret _] [], .ifs _ [.ret _] [], .ifs _ [.ret _] [], .ifs _ [.ret _] [], .ret _] env s) = _
  unfold itB
  cases h13 : Nat.beq w 13 with
  | true => rw [h13] at e13; rw [ifs_ret e13 r13]; rfl
  | false =>
    rw [h13] at e13; rw [ifs_go e13]
    cases h3 : has [0, 1, 2, 3, 15] w with
    | true => rw [h3] at e3; rw [ifs_ret e3 rs]; rfl
    | false =>
      rw [h3] at e3; rw [ifs_go e3]
      cases h4 : has [4, 5, 6] w with
      | true => rw [h4] at e4; rw [ifs_ret e4 rb]; rfl
      | false =>
        rw [h4] at e4; rw [ifs_go e4]
        cases h7 : has [7, 8] w with
        | true => rw [h7] at e7; rw [ifs_ret e7 rl]; rfl
        | false => rw [h7] at e7; rw [ifs_go e7, ret_one rp]; rfl
end
end Ev
set_option Elab.async false
set_option linter.all false
set_option maxRecDepth 100000
set_option maxHeartbeats 400000
namespace Ev
open PySem PySem.Spec PyProof.Rows L2
/-! ### the laws' own words of kinds: _law_bad -/
def lawbadF : Fn := ⟨10, 3, [(.par [(.nm 3), (.nm 4)] [(.bc .len [(.v 0)]), (.ix (.v 2) (.k (.int 0)))]),
  (.ifs (.cmp .in_ (.v 1) (.lst [(.k (.str ⟨#[115, 117, 98]⟩)), (.k (.str ⟨#[115, 117, 112, 101, 114]⟩))])) [(.asg (.nm 5) (.ix (.v 2) (.k (.int 1)))), (.ret (.and_ (.cmp .lt (.op .add (.v 4) (.v 5)) (.v 3)) (.ite (.cmp .eq (.v 1) (.k (.str ⟨#[115, 117, 98]⟩))) (.cmp .gt (.ix (.v 0) (.op .add (.v 4) (.v 5))) (.op .add (.ix (.v 0) (.v 4)) (.ix (.v 0) (.v 5)))) (.cmp .lt (.ix (.v 0) (.op .add (.v 4) (.v 5))) (.op .add (.ix (.v 0) (.v 4)) (.ix (.v 0) (.v 5)))))))] []),
  (.ifs (.cmp .in_ (.v 1) (.lst [(.k (.str ⟨#[122, 101, 114, 111]⟩)), (.k (.str ⟨#[112, 111, 115]⟩)), (.k (.str ⟨#[108, 97, 115, 116]⟩))])) [(.ret (.ix (.lst [(.and_ (.cmp .eq (.v 4) (.k (.int 0))) (.cmp .ne (.ix (.v 0) (.k (.int 0))) (.k (.int 0)))), (.cmp .lt (.ix (.v 0) (.v 4)) (.k (.int 1))), (.cmp .gt (.ix (.v 0) (.v 4)) (.ix (.v 0) (.op .sub (.v 3) (.k (.int 1)))))]) (.mth .index (.lst [(.k (.str ⟨#[122, 101, 114, 111]⟩)), (.k (.str ⟨#[112, 111, 115]⟩)), (.k (.str ⟨#[108, 97, 115, 116]⟩))]) [(.v 1)])))] []),
  (.ifs (.cmp .eq (.v 1) (.k (.str ⟨#[109, 105, 114, 114, 111, 114]⟩))) [(.ret (.cmp .ne (.ix (.v 0) (.v 4)) (.ix (.rev (.v 0)) (.v 4))))] []),
  (.ifs (.cmp .in_ (.v 1) (.lst [(.k (.str ⟨#[114, 105, 115, 101]⟩)), (.k (.str ⟨#[115, 116, 114, 105, 99, 116]⟩)), (.k (.str ⟨#[102, 97, 108, 108]⟩)), (.k (.str ⟨#[99, 111, 110, 115, 116]⟩)), (.k (.str ⟨#[108, 105, 112]⟩))])) [(.ifs (.cmp .eq (.v 4) (.op .sub (.v 3) (.k (.int 1)))) [(.ret (.k (.bl false)))] []), (.asg (.nm 6) (.op .sub (.ix (.v 0) (.op .add (.v 4) (.k (.int 1)))) (.ix (.v 0) (.v 4)))), (.ret (.ix (.lst [(.cmp .lt (.v 6) (.k (.int 0))), (.cmp .lt (.v 6) (.k (.int 1))), (.cmp .gt (.v 6) (.k (.int 0))), (.cmp .ne (.v 6) (.k (.int 0))), (.cmp .gt (.bc .abs [(.v 6)]) (.k (.int 1)))]) (.mth .index (.lst [(.k (.str ⟨#[114, 105, 115, 101]⟩)), (.k (.str ⟨#[115, 116, 114, 105, 99, 116]⟩)), (.k (.str ⟨#[102, 97, 108, 108]⟩)), (.k (.str ⟨#[99, 111, 110, 115, 116]⟩)), (.k (.str ⟨#[108, 105, 112]⟩))]) [(.v 1)])))] []),
  (.ifs (.and_ (.cmp .in_ (.v 1) (.lst [(.k (.str ⟨#[108, 111, 103, 99]⟩)), (.k (.str ⟨#[108, 111, 103, 120]⟩))])) (.cmp .lt (.ix (.v 0) (.v 4)) (.k (.int 1)))) [(.ret (.k (.bl true)))] []),
  (.ifs (.or_ (.cmp .eq (.v 4) (.k (.int 0))) (.cmp .eq (.v 4) (.op .sub (.v 3) (.k (.int 1))))) [(.ret (.k (.bl false)))] []),
  (.ifs (.cmp .eq (.v 1) (.k (.str ⟨#[115, 116, 97, 114]⟩))) [(.ret (.cmp .gt (.op .mul (.ix (.v 0) (.v 4)) (.op .add (.v 4) (.k (.int 1)))) (.op .mul (.ix (.v 0) (.op .add (.v 4) (.k (.int 1)))) (.v 4))))] []),
  (.par [(.nm 7), (.nm 8), (.nm 9)] [(.ix (.v 0) (.op .sub (.v 4) (.k (.int 1)))), (.ix (.v 0) (.v 4)), (.ix (.v 0) (.op .add (.v 4) (.k (.int 1))))]),
  (.ifs (.cmp .in_ (.v 1) (.lst [(.k (.str ⟨#[108, 111, 103, 99]⟩)), (.k (.str ⟨#[108, 111, 103, 120]⟩))])) [(.ret (.ite (.cmp .eq (.v 1) (.k (.str ⟨#[108, 111, 103, 99]⟩))) (.cmp .gt (.op .mul (.v 7) (.v 9)) (.op .mul (.v 8) (.v 8))) (.cmp .lt (.op .mul (.v 7) (.v 9)) (.op .mul (.v 8) (.v 8)))))] []),
  (.ret (.ix (.lst [(.cmp .ne (.op .add (.v 7) (.v 9)) (.op .add (.v 8) (.v 8))), (.cmp .lt (.op .add (.v 7) (.v 9)) (.op .add (.v 8) (.v 8))), (.cmp .gt (.op .add (.v 7) (.v 9)) (.op .add (.v 8) (.v 8)))]) (.mth .index (.lst [(.k (.str ⟨#[101, 118, 101, 110]⟩)), (.k (.str ⟨#[99, 111, 110, 118, 101, 120]⟩)), (.k (.str ⟨#[99, 111, 110, 99, 97, 118, 101]⟩))]) [(.v 1)])))]⟩
theorem has2 {a b w : Nat} (h : has [a, b] w = true) : w = a ∨ w = b := by
  unfold has at h
  simp only [List.any_cons, List.any_nil, Bool.or_false, Bool.or_eq_true] at h
  rcases h with h | h
  · exact .inl (Nat.eq_of_beq_eq_true h).symm
  · exact .inr (Nat.eq_of_beq_eq_true h).symm
theorem has3 {a b d w : Nat} (h : has [a, b, d] w = true) : w = a ∨ w = b ∨ w = d := by
  unfold has at h
  simp only [List.any_cons, List.any_nil, Bool.or_false, Bool.or_eq_true] at h
  rcases h with h | h | h
  · exact .inl (Nat.eq_of_beq_eq_true h).symm
  · exact .inr (.inl (Nat.eq_of_beq_eq_true h).symm)
  · exact .inr (.inr (Nat.eq_of_beq_eq_true h).symm)
theorem has5 {a b d e f w : Nat} (h : has [a, b, d, e, f] w = true) : w = a ∨ w = b ∨ w = d ∨ w = e ∨ w = f := by
  unfold has at h
  simp only [List.any_cons, List.any_nil, Bool.or_false, Bool.or_eq_true] at h
  rcases h with h | h | h | h | h
  · exact .inl (Nat.eq_of_beq_eq_true h).symm
  · exact .inr (.inl (Nat.eq_of_beq_eq_true h).symm)
  · exact .inr (.inr (.inl (Nat.eq_of_beq_eq_true h).symm))
  · exact .inr (.inr (.inr (.inl (Nat.eq_of_beq_eq_true h).symm)))
  · exact .inr (.inr (.inr (.inr (Nat.eq_of_beq_eq_true h).symm)))
section
variable {P : List Fn} {gl : List D} {sb : List (Nat × Nat)} {fuel : Nat} {zs : List Int} {w i j : Nat} {s : Sg}
theorem at_rev (hi : i < zs.length) : L2.atI (zs.map D.int).reverse (i : Int) = some (.int (zA zs (zs.length - 1 - i))) := by
  rw [← List.map_reverse, atI_map]
  have q : L2.atI zs.reverse (i : Int) = some (zA zs (zs.length - 1 - i)) := by
    obtain ⟨r, h1, h2⟩ := atI_ok (l := zs.reverse) (i := (i : Int)) (by omega) (by rw [List.length_reverse]; omega)
    rw [Int.toNat_natCast, List.getElem?_reverse hi, List.getElem?_eq_getElem (by omega)] at h2
    rw [h1, ← Option.some.inj h2]
    show _ = some (zs.getD (zs.length - 1 - i) 0)
    rw [getD_get (by omega)]
  rw [q]; rfl
/-- a value of a display of three, of five -/
theorem dix3 {c : Cc} {env : Env} {a b d ke : E} {x y z v : Bool} {m : Int} (ha : evE c a env s = .ok (.sh, .bl x) s) (hb : evE c b env s = .ok (.sh, .bl y) s) (hd : evE c d env s = .ok (.sh, .bl z) s) (hk : evE c ke env s = .ok (.sh, .int m) s) (hm : L2.atI [D.bl x, .bl y, .bl z] m = some (.bl v)) : evE c (.ix (.lst [a, b, d]) ke) env s = .ok (.sh, .bl v) s := by
  have l : evE c (.lst [a, b, d]) env s = .ok (.fr, .lst [.bl x, .bl y, .bl z]) s := by
    rw [evE, evEs, bind_ok ha, evEs, bind_ok hb, evEs, bind_ok hd]; rfl
  exact ix_ok (.inr rfl) l hk hm
theorem dix5 {c : Cc} {env : Env} {a b d e f ke : E} {x y z u t v : Bool} {m : Int} (ha : evE c a env s = .ok (.sh, .bl x) s) (hb : evE c b env s = .ok (.sh, .bl y) s) (hd : evE c d env s = .ok (.sh, .bl z) s) (he : evE c e env s = .ok (.sh, .bl u) s) (hf : evE c f env s = .ok (.sh, .bl t) s) (hk : evE c ke env s = .ok (.sh, .int m) s) (hm : L2.atI [D.bl x, .bl y, .bl z, .bl u, .bl t] m = some (.bl v)) : evE c (.ix (.lst [a, b, d, e, f]) ke) env s = .ok (.sh, .bl v) s := by
  have l : evE c (.lst [a, b, d, e, f]) env s = .ok (.fr, .lst [.bl x, .bl y, .bl z, .bl u, .bl t]) s := by
    rw [evE, evEs, bind_ok ha, evEs, bind_ok hb, evEs, bind_ok hd, evEs, bind_ok he, evEs, bind_ok hf]; rfl
  exact ix_ok (.inr rfl) l hk hm
def envQ (zs : List Int) (w : Nat) (r : D) (i : Nat) (x5 x6 x7 x8 x9 : Option (Bool × D)) : Env := [some (false, .tup (zs.map .int)), some (false, W w), some (false, r), some (false, .int zs.length), some (false, .int i), x5, x6, x7, x8, x9]
abbrev kyA : E := (.mth .index (.lst [(.k (.str ⟨#[122, 101, 114, 111]⟩)), (.k (.str ⟨#[112, 111, 115]⟩)), (.k (.str ⟨#[108, 97, 115, 116]⟩))]) [(.v 1)])
abbrev kyB : E := (.mth .index (.lst [(.k (.str ⟨#[114, 105, 115, 101]⟩)), (.k (.str ⟨#[115, 116, 114, 105, 99, 116]⟩)), (.k (.str ⟨#[102, 97, 108, 108]⟩)), (.k (.str ⟨#[99, 111, 110, 115, 116]⟩)), (.k (.str ⟨#[108, 105, 112]⟩))]) [(.v 1)])
abbrev kyC : E := (.mth .index (.lst [(.k (.str ⟨#[101, 118, 101, 110]⟩)), (.k (.str ⟨#[99, 111, 110, 118, 101, 120]⟩)), (.k (.str ⟨#[99, 111, 110, 99, 97, 118, 101]⟩))]) [(.v 1)])
theorem kyA_ok (c : Cc) (r : D) (x5 x6 x7 x8 x9 : Option (Bool × D)) : evE c kyA (envQ zs 13 r i x5 x6 x7 x8 x9) s = .ok (.sh, .int 0) s ∧ evE c kyA (envQ zs 14 r i x5 x6 x7 x8 x9) s = .ok (.sh, .int 1) s ∧ evE c kyA (envQ zs 16 r i x5 x6 x7 x8 x9) s = .ok (.sh, .int 2) s := ⟨by kernel_rfl, by kernel_rfl, by kernel_rfl⟩
theorem kyB_ok (c : Cc) (r : D) (x5 x6 x7 x8 x9 : Option (Bool × D)) : evE c kyB (envQ zs 0 r i x5 x6 x7 x8 x9) s = .ok (.sh, .int 0) s ∧ evE c kyB (envQ zs 1 r i x5 x6 x7 x8 x9) s = .ok (.sh, .int 1) s ∧ evE c kyB (envQ zs 2 r i x5 x6 x7 x8 x9) s = .ok (.sh, .int 2) s ∧ evE c kyB (envQ zs 3 r i x5 x6 x7 x8 x9) s = .ok (.sh, .int 3) s ∧ evE c kyB (envQ zs 15 r i x5 x6 x7 x8 x9) s = .ok (.sh, .int 4) s := ⟨by kernel_rfl, by kernel_rfl, by kernel_rfl, by kernel_rfl, by kernel_rfl⟩
theorem kyC_ok (c : Cc) (r : D) (x5 x6 x7 x8 x9 : Option (Bool × D)) : evE c kyC (envQ zs 4 r i x5 x6 x7 x8 x9) s = .ok (.sh, .int 0) s ∧ evE c kyC (envQ zs 5 r i x5 x6 x7 x8 x9) s = .ok (.sh, .int 1) s ∧ evE c kyC (envQ zs 6 r i x5 x6 x7 x8 x9) s = .ok (.sh, .int 2) s := ⟨by kernel_rfl, by kernel_rfl, by kernel_rfl⟩
end
end Ev
set_option Elab.async false
set_option linter.all false
set_option maxRecDepth 100000
set_option maxHeartbeats 400000
namespace Ev
open PySem PySem.Spec PyProof.Rows L2
section
variable {P : List Fn} {gl : List D} {sb : List (Nat × Nat)} {fuel : Nat} {zs : List Int} {w i j : Nat} {s : Sg}
theorem nat_beq (a : Nat) : Nat.beq a a = true := Nat.beq_refl a
/-- _law_bad at one place -/
theorem c_bad1 {jb : Nat} (h : At P jb lawbadF) (n : Nat) (hz : Row zs) (hw : w < 17) (hi : i < zs.length) (hp : has [10, 11] w = false) : evC P gl sb fuel (n + 1) jb [(.sh, .tup (zs.map .int)), (.sh, W w), (.sh, .tup [.int i])] s = .ok (.sh, .bl (itB zs w i)) s := by
  rw [open_ h _ _ rfl]
  have l2 := hz.2.1
  let c : Cc := ⟨gl, sb, evC P gl sb fuel n, fuel⟩
  let env0 : Env := [some (false, .tup (zs.map .int)), some (false, W w), some (false, .tup [.int i]), none, none, none, none, none, none, none]
  let env : Env := envQ zs w (.tup [.int i]) i none none none none none
  have a1 : evS c ((.par [(.nm 3), (.nm 4)] [(.bc .len [(.v 0)]), (.ix (.v 2) (.k (.int 0)))])) env0 s = .nx env s := by
    have x : evE c (.ix (.v 2) (.k (.int 0))) env0 s = .ok (.sh, .int i) s := rfl
    have l : evE c (.bc .len [(.v 0)]) env0 s = .ok (.sh, .int zs.length) s := by simp [evSs, evS, evE, evEs, evTs, evT, Out.bind, Out.sr, lift, SR.seq, ixV, truD, cmD, opD, plainD, eqD, setS, setV, keep, bcD, dat, ixD, optS, asgV, asgVs, asgD, asgDs, backF, Ev.lent, Ev.leaves, testsD, keeps, flatD, inD, itV, itW, isLo, isSeq, itD, owned, Ev.unown, mixed, isFr, Ev.settle, oneI, slD, isiD, augV, flatAt, noEx, env0]
    rw [evS, evEs, bind_ok l, evEs, bind_ok x]; rfl
  have w1 : env[1]? = some (some (false, W w)) := rfl
  have n1 : evE c (.op .sub (.v 3) (.k (.int 1))) env s = .ok (.sh, .int ((zs.length - 1 : Nat) : Int)) s := by
    have : ((zs.length - 1 : Nat) : Int) = (zs.length : Int) - 1 := by omega
    rw [this]; rfl
  have ip : evE c (.op .add (.v 4) (.k (.int 1))) env s = .ok (.sh, .int ((i + 1 : Nat) : Int)) s := rfl
  have zi : evE c (.ix (.v 0) (.v 4)) env s = .ok (.sh, .int (zA zs i)) s := ix_ok (k := .sh) (k' := .sh) (j := i) (l := zs.map D.int) (d0 := .tup (zs.map D.int)) (.inl rfl) rfl rfl (atZ hi)
  have z0 : evE c (.ix (.v 0) (.k (.int 0))) env s = .ok (.sh, .int (zA zs 0)) s := ix_ok (k := .sh) (k' := .sh) (j := ((0 : Nat) : Int)) (l := zs.map D.int) (d0 := .tup (zs.map D.int)) (.inl rfl) rfl rfl (atZ (by omega))
  have zl : evE c (.ix (.v 0) (.op .sub (.v 3) (.k (.int 1)))) env s = .ok (.sh, .int (zA zs (zs.length - 1))) s := ix_ok (k := .sh) (l := zs.map D.int) (d0 := .tup (zs.map D.int)) (.inl rfl) rfl n1 (atZ (by omega))
  have t1 : evE c (.cmp .in_ (.v 1) (.lst [(.k (.str ⟨#[115, 117, 98]⟩)), (.k (.str ⟨#[115, 117, 112, 101, 114]⟩))])) env s = .ok (.sh, .bl (has [10, 11] w)) s := in_words (l := [10, 11]) (k := .fr) w1 hw (lt_of (by decide)) (.inr rfl) rfl
  have t2 : evE c (.cmp .in_ (.v 1) (.lst [(.k (.str ⟨#[122, 101, 114, 111]⟩)), (.k (.str ⟨#[112, 111, 115]⟩)), (.k (.str ⟨#[108, 97, 115, 116]⟩))])) env s = .ok (.sh, .bl (has [13, 14, 16] w)) s := in_words (l := [13, 14, 16]) (k := .fr) w1 hw (lt_of (by decide)) (.inr rfl) rfl
  have t3 : evE c (.cmp .eq (.v 1) (.k (.str ⟨#[109, 105, 114, 114, 111, 114]⟩))) env s = .ok (.sh, .bl (Nat.beq w 9)) s := eq_word (j := 9) w1 hw (by decide)
  have t4 : evE c (.cmp .in_ (.v 1) (.lst [(.k (.str ⟨#[114, 105, 115, 101]⟩)), (.k (.str ⟨#[115, 116, 114, 105, 99, 116]⟩)), (.k (.str ⟨#[102, 97, 108, 108]⟩)), (.k (.str ⟨#[99, 111, 110, 115, 116]⟩)), (.k (.str ⟨#[108, 105, 112]⟩))])) env s = .ok (.sh, .bl (has [0, 1, 2, 3, 15] w)) s := in_words (l := [0, 1, 2, 3, 15]) (k := .fr) w1 hw (lt_of (by decide)) (.inr rfl) rfl
  have t5 : evE c (.cmp .in_ (.v 1) (.lst [(.k (.str ⟨#[108, 111, 103, 99]⟩)), (.k (.str ⟨#[108, 111, 103, 120]⟩))])) env s = .ok (.sh, .bl (has [7, 8] w)) s := in_words (l := [7, 8]) (k := .fr) w1 hw (lt_of (by decide)) (.inr rfl) rfl
  have t5' : evE c (.and_ (.cmp .in_ (.v 1) (.lst [(.k (.str ⟨#[108, 111, 103, 99]⟩)), (.k (.str ⟨#[108, 111, 103, 120]⟩))])) (.cmp .lt (.ix (.v 0) (.v 4)) (.k (.int 1)))) env s = .ok (.sh, .bl (has [7, 8] w && decide (zA zs i < 1))) s := and2 t5 (cmp_ok (k' := .sh) (y := .int 1) zi rfl rfl)
  have q6 : evE c (.cmp .eq (.v 4) (.op .sub (.v 3) (.k (.int 1)))) env s = .ok (.sh, .bl (decide ((i : Int) = ((zs.length - 1 : Nat) : Int)))) s := cmp_ok (k := .sh) (x := .int i) rfl n1 (cm_eq _ _)
  have t6 : evE c (.or_ (.cmp .eq (.v 4) (.k (.int 0))) (.cmp .eq (.v 4) (.op .sub (.v 3) (.k (.int 1))))) env s = .ok (.sh, .bl (decide ((i : Int) = 0) || decide ((i : Int) = ((zs.length - 1 : Nat) : Int)))) s := or2 (cmp_ok (k := .sh) (k' := .sh) (x := .int i) (y := .int 0) rfl rfl (cm_eq _ _)) q6
  have t7 : evE c (.cmp .eq (.v 1) (.k (.str ⟨#[115, 116, 97, 114]⟩))) env s = .ok (.sh, .bl (Nat.beq w 12)) s := eq_word (j := 12) w1 hw (by decide)
  show backF _ (evSs c [_, .ifs _ _ [], .ifs _ [.ret _] [], .ifs _ [.ret _] [], .ifs _ _ [], .ifs _ [.ret _] [], .ifs _ [.ret _] [], .ifs _ [.ret _] [], _, .ifs _ [.ret _] [], .ret _] env0 s) = _
  rw [seq_one a1]
  rw [hp] at t1
  rw [ifs_go t1]
  cases h2 : has [13, 14, 16] w with
  | true =>
    rw [h2] at t2
    have u1 : evE c (.and_ (.cmp .eq (.v 4) (.k (.int 0))) (.cmp .ne (.ix (.v 0) (.k (.int 0))) (.k (.int 0)))) env s = .ok (.sh, .bl (decide ((i : Int) = 0) && !decide (zA zs 0 = 0))) s := and2 (cmp_ok (k := .sh) (k' := .sh) (x := .int i) (y := .int 0) rfl rfl (cm_eq _ _)) (cmp_ok (k' := .sh) (y := .int 0) z0 rfl rfl)
    have u2 : evE c (.cmp .lt (.ix (.v 0) (.v 4)) (.k (.int 1))) env s = .ok (.sh, .bl (decide (zA zs i < 1))) s := cmp_ok (k' := .sh) (y := .int 1) zi rfl rfl
    have u3 : evE c (.cmp .gt (.ix (.v 0) (.v 4)) (.ix (.v 0) (.op .sub (.v 3) (.k (.int 1))))) env s = .ok (.sh, .bl (decide (zA zs (zs.length - 1) < zA zs i))) s := cmp_ok zi zl rfl
    have ky := kyA_ok (zs := zs) (i := i) (s := s) c (.tup [.int i]) none none none none none
    rcases has3 h2 with rfl | rfl | rfl
    · rw [ifs_ret t2 (dix3 u1 u2 u3 ky.1 rfl)]
      have q : decide ((i : Int) = 0) = decide (i = 0) := by rw [decide_eq_decide]; omega
      rw [q]; rfl
    · rw [ifs_ret t2 (dix3 u1 u2 u3 ky.2.1 rfl)]
      have q : decide (zA zs i < 1) = decide (zA zs i ≤ 0) := by rw [decide_eq_decide]; omega
      rw [q]; rfl
    · rw [ifs_ret t2 (dix3 u1 u2 u3 ky.2.2 rfl)]; rfl
  | false =>
  rw [h2] at t2
  rw [ifs_go t2]
  cases h3 : Nat.beq w 9 with
  | true =>
    rw [h3] at t3
    have : w = 9 := Nat.eq_of_beq_eq_true h3
    subst this
    have rv : evE c (.rev (.v 0)) env s = .ok (.sh, .tup (zs.map D.int).reverse) s := rfl
    have xr : evE c (.ix (.rev (.v 0)) (.v 4)) env s = .ok (.sh, .int (zA zs (zs.length - 1 - i))) s := ix_ok (k' := .sh) (j := i) (.inl rfl) rv rfl (at_rev hi)
    have r3 : evE c (.cmp .ne (.ix (.v 0) (.v 4)) (.ix (.rev (.v 0)) (.v 4))) env s = .ok (.sh, .bl (!decide (zA zs i = zA zs (zs.length - 1 - i)))) s := cmp_ok zi xr rfl
    rw [ifs_ret t3 r3]; rfl
  | false =>
  rw [h3] at t3
  rw [ifs_go t3]
  cases h4 : has [0, 1, 2, 3, 15] w with
  | true =>
    rw [h4] at t4
    by_cases hn : zs.length ≤ i + 1
    · have hq : (i : Int) = ((zs.length - 1 : Nat) : Int) := by omega
      rw [decide_eq_true hq] at q6
      have st : evS c ((.ifs (.cmp .in_ (.v 1) (.lst [(.k (.str ⟨#[114, 105, 115, 101]⟩)), (.k (.str ⟨#[115, 116, 114, 105, 99, 116]⟩)), (.k (.str ⟨#[102, 97, 108, 108]⟩)), (.k (.str ⟨#[99, 111, 110, 115, 116]⟩)), (.k (.str ⟨#[108, 105, 112]⟩))])) [(.ifs (.cmp .eq (.v 4) (.op .sub (.v 3) (.k (.int 1)))) [(.ret (.k (.bl false)))] []), (.asg (.nm 6) (.op .sub (.ix (.v 0) (.op .add (.v 4) (.k (.int 1)))) (.ix (.v 0) (.v 4)))), (.ret (.ix (.lst [(.cmp .lt (.v 6) (.k (.int 0))), (.cmp .lt (.v 6) (.k (.int 1))), (.cmp .gt (.v 6) (.k (.int 0))), (.cmp .ne (.v 6) (.k (.int 0))), (.cmp .gt (.bc .abs [(.v 6)]) (.k (.int 1)))]) (.mth .index (.lst [(.k (.str ⟨#[114, 105, 115, 101]⟩)), (.k (.str ⟨#[115, 116, 114, 105, 99, 116]⟩)), (.k (.str ⟨#[102, 97, 108, 108]⟩)), (.k (.str ⟨#[99, 111, 110, 115, 116]⟩)), (.k (.str ⟨#[108, 105, 112]⟩))]) [(.v 1)])))] [])) env s = .rt (.sh, .bl false) s := by
        rw [ifs_t t4, ifs_ret (d := .bl false) q6 rfl]
      have v : itB zs w i = false := by
        have sf : stepB zs w i = false := if_pos hn
        rcases has5 h4 with rfl | rfl | rfl | rfl | rfl <;> exact sf
      rw [v, evSs]
      show backF _ ((evS c ((.ifs (.cmp .in_ (.v 1) (.lst [(.k (.str ⟨#[114, 105, 115, 101]⟩)), (.k (.str ⟨#[115, 116, 114, 105, 99, 116]⟩)), (.k (.str ⟨#[102, 97, 108, 108]⟩)), (.k (.str ⟨#[99, 111, 110, 115, 116]⟩)), (.k (.str ⟨#[108, 105, 112]⟩))])) [(.ifs (.cmp .eq (.v 4) (.op .sub (.v 3) (.k (.int 1)))) [(.ret (.k (.bl false)))] []), (.asg (.nm 6) (.op .sub (.ix (.v 0) (.op .add (.v 4) (.k (.int 1)))) (.ix (.v 0) (.v 4)))), (.ret (.ix (.lst [(.cmp .lt (.v 6) (.k (.int 0))), (.cmp .lt (.v 6) (.k (.int 1))), (.cmp .gt (.v 6) (.k (.int 0))), (.cmp .ne (.v 6) (.k (.int 0))), (.cmp .gt (.bc .abs [(.v 6)]) (.k (.int 1)))]) (.mth .index (.lst [(.k (.str ⟨#[114, 105, 115, 101]⟩)), (.k (.str ⟨#[115, 116, 114, 105, 99, 116]⟩)), (.k (.str ⟨#[102, 97, 108, 108]⟩)), (.k (.str ⟨#[99, 111, 110, 115, 116]⟩)), (.k (.str ⟨#[108, 105, 112]⟩))]) [(.v 1)])))] [])) env s).seq _) = _
      rw [st]; rfl
    · have hq : ¬ (i : Int) = ((zs.length - 1 : Nat) : Int) := by omega
      rw [decide_eq_false hq] at q6
      let st := zA zs (i + 1) - zA zs i
      let env2 : Env := envQ zs w (.tup [.int i]) i none (some (false, .int st)) none none none
      have x1 : evE c (.ix (.v 0) (.op .add (.v 4) (.k (.int 1)))) env s = .ok (.sh, .int (zA zs (i + 1))) s := ix_ok (k := .sh) (l := zs.map D.int) (d0 := .tup (zs.map D.int)) (.inl rfl) rfl ip (atZ (by omega))
      have a6 : evS c (.asg (.nm 6) (.op .sub (.ix (.v 0) (.op .add (.v 4) (.k (.int 1)))) (.ix (.v 0) (.v 4)))) env s = .nx env2 s := asg_sh (op_ok x1 zi rfl)
      have u1 : evE c (.cmp .lt (.v 6) (.k (.int 0))) env2 s = .ok (.sh, .bl (decide (st < 0))) s := rfl
      have u2 : evE c (.cmp .lt (.v 6) (.k (.int 1))) env2 s = .ok (.sh, .bl (decide (st < 1))) s := rfl
      have u3 : evE c (.cmp .gt (.v 6) (.k (.int 0))) env2 s = .ok (.sh, .bl (decide (0 < st))) s := rfl
      have u4 : evE c (.cmp .ne (.v 6) (.k (.int 0))) env2 s = .ok (.sh, .bl (!decide (st = 0))) s := cmp_ok (k := .sh) (k' := .sh) (x := .int st) (y := .int 0) rfl rfl rfl
      have u5 : evE c (.cmp .gt (.bc .abs [(.v 6)]) (.k (.int 1))) env2 s = .ok (.sh, .bl (decide (1 < absI st))) s := rfl
      have ky := kyB_ok (zs := zs) (i := i) (s := s) c (.tup [.int i]) none (some (false, .int st)) none none none
      have go : ∀ (m : Int) (v : Bool), evE c kyB env2 s = .ok (.sh, .int m) s → L2.atI [D.bl (decide (st < 0)), .bl (decide (st < 1)), .bl (decide (0 < st)), .bl (!decide (st = 0)), .bl (decide (1 < absI st))] m = some (.bl v) → itB zs w i = v → backF false (evSs c ((.ifs (.cmp .in_ (.v 1) (.lst [(.k (.str ⟨#[114, 105, 115, 101]⟩)), (.k (.str ⟨#[115, 116, 114, 105, 99, 116]⟩)), (.k (.str ⟨#[102, 97, 108, 108]⟩)), (.k (.str ⟨#[99, 111, 110, 115, 116]⟩)), (.k (.str ⟨#[108, 105, 112]⟩))])) [(.ifs (.cmp .eq (.v 4) (.op .sub (.v 3) (.k (.int 1)))) [(.ret (.k (.bl false)))] []), (.asg (.nm 6) (.op .sub (.ix (.v 0) (.op .add (.v 4) (.k (.int 1)))) (.ix (.v 0) (.v 4)))), (.ret (.ix (.lst [(.cmp .lt (.v 6) (.k (.int 0))), (.cmp .lt (.v 6) (.k (.int 1))), (.cmp .gt (.v 6) (.k (.int 0))), (.cmp .ne (.v 6) (.k (.int 0))), (.cmp .gt (.bc .abs [(.v 6)]) (.k (.int 1)))]) (.mth .index (.lst [(.k (.str ⟨#[114, 105, 115, 101]⟩)), (.k (.str ⟨#[115, 116, 114, 105, 99, 116]⟩)), (.k (.str ⟨#[102, 97, 108, 108]⟩)), (.k (.str ⟨#[99, 111, 110, 115, 116]⟩)), (.k (.str ⟨#[108, 105, 112]⟩))]) [(.v 1)])))] []) :: lawbadF.body.drop 5) env s) = .ok (.sh, .bl (itB zs w i)) s := fun m v hk hm hv => by
        have r := dix5 u1 u2 u3 u4 u5 hk hm
        have b := ret_one r
        have sb4 : evS c ((.ifs (.cmp .in_ (.v 1) (.lst [(.k (.str ⟨#[114, 105, 115, 101]⟩)), (.k (.str ⟨#[115, 116, 114, 105, 99, 116]⟩)), (.k (.str ⟨#[102, 97, 108, 108]⟩)), (.k (.str ⟨#[99, 111, 110, 115, 116]⟩)), (.k (.str ⟨#[108, 105, 112]⟩))])) [(.ifs (.cmp .eq (.v 4) (.op .sub (.v 3) (.k (.int 1)))) [(.ret (.k (.bl false)))] []), (.asg (.nm 6) (.op .sub (.ix (.v 0) (.op .add (.v 4) (.k (.int 1)))) (.ix (.v 0) (.v 4)))), (.ret (.ix (.lst [(.cmp .lt (.v 6) (.k (.int 0))), (.cmp .lt (.v 6) (.k (.int 1))), (.cmp .gt (.v 6) (.k (.int 0))), (.cmp .ne (.v 6) (.k (.int 0))), (.cmp .gt (.bc .abs [(.v 6)]) (.k (.int 1)))]) (.mth .index (.lst [(.k (.str ⟨#[114, 105, 115, 101]⟩)), (.k (.str ⟨#[115, 116, 114, 105, 99, 116]⟩)), (.k (.str ⟨#[102, 97, 108, 108]⟩)), (.k (.str ⟨#[99, 111, 110, 115, 116]⟩)), (.k (.str ⟨#[108, 105, 112]⟩))]) [(.v 1)])))] [])) env s = .rt (.sh, .bl v) s := by
          rw [ifs_t t4, ifs_go q6, seq_one a6, b]
        rw [evSs, sb4, hv]; rfl
      have hs : stepB zs w i = (if Nat.beq w 15 then !(decide (-1 ≤ st) && decide (st ≤ 1)) else if Nat.beq w 3 then !decide (st = 0) else if Nat.beq w 2 then decide (0 < st) else if Nat.beq w 0 then decide (st < 0) else decide (st ≤ 0)) := if_neg hn
      rcases has5 h4 with rfl | rfl | rfl | rfl | rfl
      · exact go 0 _ ky.1 rfl hs
      · refine go 1 _ ky.2.1 rfl ?_
        have q : decide (st < 1) = decide (st ≤ 0) := by rw [decide_eq_decide]; omega
        rw [q]; exact hs
      · exact go 2 _ ky.2.2.1 rfl hs
      · exact go 3 _ ky.2.2.2.1 rfl hs
      · refine go 4 _ ky.2.2.2.2 rfl ?_
        have q : decide (1 < absI st) = !(decide (-1 ≤ st) && decide (st ≤ 1)) := by
          rw [← Bool.decide_and, ← decide_not, decide_eq_decide]
          unfold absI
          split <;> omega
        rw [q]; exact hs
  | false =>
  rw [h4] at t4
  rw [ifs_go t4]
  have ni : Nat.beq w 13 = false ∧ Nat.beq w 14 = false ∧ Nat.beq w 16 = false := by
    unfold has at h2
    simp only [List.any_cons, List.any_nil, Bool.or_false, Bool.or_eq_false_iff] at h2
    have sy : ∀ a b : Nat, Nat.beq a b = false → Nat.beq b a = false := fun a b h => by
      cases q : Nat.beq b a with
      | false => rfl
      | true => rw [Nat.eq_of_beq_eq_true q, nat_beq] at h; cases h
    exact ⟨sy _ _ h2.1, sy _ _ h2.2.1, sy _ _ h2.2.2⟩
  have it : itB zs w i = if has [4, 5, 6] w then bendB zs w i else if has [7, 8] w then (decide (zA zs i ≤ 0) || bendB zs w i) else (midB zs i && decide (zA zs (i + 1) * i < zA zs i * ((i : Int) + 1))) := by
    unfold itB placeB
    rw [ni.1, h4, h3, ni.2.1, ni.2.2]; rfl
  rw [it]
  cases h5 : (has [7, 8] w && decide (zA zs i < 1)) with
  | true =>
    rw [h5] at t5'
    rw [ifs_ret (d := .bl true) t5' rfl]
    rw [Bool.and_eq_true] at h5
    have q := of_decide_eq_true h5.2
    have n4 : has [4, 5, 6] w = false := by rcases has2 h5.1 with rfl | rfl <;> rfl
    rw [n4, h5.1, decide_eq_true (show zA zs i ≤ 0 by omega)]; rfl
  | false =>
  rw [h5] at t5'
  rw [ifs_go t5']
  have md : midB zs i = !(decide ((i : Int) = 0) || decide ((i : Int) = ((zs.length - 1 : Nat) : Int))) := by
    unfold midB
    rw [← Bool.decide_or, ← Bool.decide_and, ← decide_not, decide_eq_decide]
    omega
  have lz : has [7, 8] w = true → decide (zA zs i ≤ 0) = false := fun hh => by
    rw [hh, Bool.true_and] at h5
    have := of_decide_eq_false h5
    exact decide_eq_false (by omega)
  cases h6 : (decide ((i : Int) = 0) || decide ((i : Int) = ((zs.length - 1 : Nat) : Int))) with
  | true =>
    rw [h6] at t6 md
    rw [ifs_ret (d := .bl false) t6 rfl]
    have bf : bendB zs w i = false := by unfold bendB; rw [md]; rfl
    rw [bf, md]
    cases h7 : has [7, 8] w with
    | true => rw [lz h7]; cases has [4, 5, 6] w <;> rfl
    | false => cases has [4, 5, 6] w <;> rfl
  | false =>
  rw [h6] at t6 md
  rw [ifs_go t6]
  have hm' : 0 < i ∧ i + 1 < zs.length := by
    have md' : midB zs i = true := md
    unfold midB at md'; simpa using md'
  have x1 : evE c (.ix (.v 0) (.op .add (.v 4) (.k (.int 1)))) env s = .ok (.sh, .int (zA zs (i + 1))) s := ix_ok (k := .sh) (l := zs.map D.int) (d0 := .tup (zs.map D.int)) (.inl rfl) rfl ip (atZ hm'.2)
  cases h7 : Nat.beq w 12 with
  | true =>
    rw [h7] at t7
    have : w = 12 := Nat.eq_of_beq_eq_true h7
    subst this
    have m1 : evE c (.op .mul (.ix (.v 0) (.v 4)) (.op .add (.v 4) (.k (.int 1)))) env s = .ok (.sh, .int (zA zs i * ((i + 1 : Nat) : Int))) s := op_ok zi ip (mul_ok _ _ (by omega) (by omega))
    have m2 : evE c (.op .mul (.ix (.v 0) (.op .add (.v 4) (.k (.int 1)))) (.v 4)) env s = .ok (.sh, .int (zA zs (i + 1) * (i : Int))) s := op_ok (k' := .sh) (y := .int i) x1 rfl (mul_ok _ _ (by omega) (by omega))
    have r : evE c (.cmp .gt (.op .mul (.ix (.v 0) (.v 4)) (.op .add (.v 4) (.k (.int 1)))) (.op .mul (.ix (.v 0) (.op .add (.v 4) (.k (.int 1)))) (.v 4))) env s = .ok (.sh, .bl (decide (zA zs (i + 1) * (i : Int) < zA zs i * ((i + 1 : Nat) : Int)))) s := cmp_ok m1 m2 rfl
    rw [ifs_ret t7 r, md]; rfl
  | false =>
  rw [h7] at t7
  rw [ifs_go t7]
  have im : evE c (.op .sub (.v 4) (.k (.int 1))) env s = .ok (.sh, .int ((i - 1 : Nat) : Int)) s := by
    have : ((i - 1 : Nat) : Int) = (i : Int) - 1 := by omega
    rw [this]; rfl
  have xm : evE c (.ix (.v 0) (.op .sub (.v 4) (.k (.int 1)))) env s = .ok (.sh, .int (zA zs (i - 1))) s := ix_ok (k := .sh) (l := zs.map D.int) (d0 := .tup (zs.map D.int)) (.inl rfl) rfl im (atZ (by omega))
  let env3 : Env := envQ zs w (.tup [.int i]) i none none (some (false, .int (zA zs (i - 1)))) (some (false, .int (zA zs i))) (some (false, .int (zA zs (i + 1))))
  have a8 : evS c ((.par [(.nm 7), (.nm 8), (.nm 9)] [(.ix (.v 0) (.op .sub (.v 4) (.k (.int 1)))), (.ix (.v 0) (.v 4)), (.ix (.v 0) (.op .add (.v 4) (.k (.int 1))))])) env s = .nx env3 s := by
    rw [evS, evEs, bind_ok xm, evEs, bind_ok zi, evEs, bind_ok x1]; rfl
  rw [seq_one a8]
  have y0 := zA_b hz hi
  have y1 := zA_b hz (i := i + 1) hm'.2
  have w3 : env3[1]? = some (some (false, W w)) := rfl
  have t9 : evE c (.cmp .in_ (.v 1) (.lst [(.k (.str ⟨#[108, 111, 103, 99]⟩)), (.k (.str ⟨#[108, 111, 103, 120]⟩))])) env3 s = .ok (.sh, .bl (has [7, 8] w)) s := in_words (l := [7, 8]) (k := .fr) w3 hw (lt_of (by decide)) (.inr rfl) rfl
  have md' : midB zs i = true := md
  cases h8 : has [7, 8] w with
  | true =>
    rw [h8] at t9
    have e7 : evE c (.cmp .eq (.v 1) (.k (.str ⟨#[108, 111, 103, 99]⟩))) env3 s = .ok (.sh, .bl (Nat.beq w 7)) s := eq_word (j := 7) w3 hw (by decide)
    have m1 : evE c (.op .mul (.v 7) (.v 9)) env3 s = .ok (.sh, .int (zA zs (i - 1) * zA zs (i + 1))) s := op_ok (k := .sh) (k' := .sh) (x := .int (zA zs (i - 1))) (y := .int (zA zs (i + 1))) rfl rfl (mul_ok _ _ (by omega) (by omega))
    have m2 : evE c (.op .mul (.v 8) (.v 8)) env3 s = .ok (.sh, .int (zA zs i * zA zs i)) s := op_ok (k := .sh) (k' := .sh) (x := .int (zA zs i)) (y := .int (zA zs i)) rfl rfl (mul_ok _ _ (by omega) (by omega))
    have r := ite_ok (a := .cmp .gt (.op .mul (.v 7) (.v 9)) (.op .mul (.v 8) (.v 8))) (b := .cmp .lt (.op .mul (.v 7) (.v 9)) (.op .mul (.v 8) (.v 8))) e7 (cmp_ok m1 m2 rfl) (cmp_ok m1 m2 rfl)
    rw [ifs_ret t9 r, lz h8]
    have v : bendV zs w i = zA zs (i - 1) * zA zs (i + 1) - zA zs i * zA zs i := by unfold bendV; rw [h8]; rfl
    have e : bendB zs w i = if Nat.beq w 4 then !decide (bendV zs w i = 0) else if has [5, 8] w then decide (bendV zs w i < 0) else decide (0 < bendV zs w i) := by unfold bendB; rw [md']; rfl
    rw [e, v]
    generalize zA zs (i - 1) * zA zs (i + 1) = p
    generalize zA zs i * zA zs i = q
    rcases has2 h8 with rfl | rfl
    · have d : decide (q < p) = decide (0 < p - q) := by rw [decide_eq_decide]; omega
      show backF _ (.rt (.sh, .bl (decide (q < p))) s) = .ok (.sh, .bl (decide (0 < p - q))) s
      rw [d]; rfl
    · have d : decide (p < q) = decide (p - q < 0) := by rw [decide_eq_decide]; omega
      show backF _ (.rt (.sh, .bl (decide (p < q))) s) = .ok (.sh, .bl (decide (p - q < 0))) s
      rw [d]; rfl
  | false =>
    rw [h8] at t9
    rw [ifs_go t9]
    have m1 : evE c (.op .add (.v 7) (.v 9)) env3 s = .ok (.sh, .int (zA zs (i - 1) + zA zs (i + 1))) s := rfl
    have m2 : evE c (.op .add (.v 8) (.v 8)) env3 s = .ok (.sh, .int (zA zs i + zA zs i)) s := rfl
    have u1 : evE c (.cmp .ne (.op .add (.v 7) (.v 9)) (.op .add (.v 8) (.v 8))) env3 s = .ok (.sh, .bl (!decide (zA zs (i - 1) + zA zs (i + 1) = zA zs i + zA zs i))) s := cmp_ok m1 m2 rfl
    have u2 : evE c (.cmp .lt (.op .add (.v 7) (.v 9)) (.op .add (.v 8) (.v 8))) env3 s = .ok (.sh, .bl (decide (zA zs (i - 1) + zA zs (i + 1) < zA zs i + zA zs i))) s := cmp_ok m1 m2 rfl
    have u3 : evE c (.cmp .gt (.op .add (.v 7) (.v 9)) (.op .add (.v 8) (.v 8))) env3 s = .ok (.sh, .bl (decide (zA zs i + zA zs i < zA zs (i - 1) + zA zs (i + 1)))) s := cmp_ok m1 m2 rfl
    have ky := kyC_ok (zs := zs) (i := i) (s := s) c (.tup [.int i]) none none (some (false, .int (zA zs (i - 1)))) (some (false, .int (zA zs i))) (some (false, .int (zA zs (i + 1))))
    have h456 : w = 4 ∨ w = 5 ∨ w = 6 := by
      have a1 : w ≠ 10 ∧ w ≠ 11 := ⟨fun z => (by rw [z] at hp; cases hp), fun z => (by rw [z] at hp; cases hp)⟩
      have a2 : w ≠ 13 ∧ w ≠ 14 ∧ w ≠ 16 := ⟨fun z => (by rw [z] at h2; cases h2), fun z => (by rw [z] at h2; cases h2), fun z => (by rw [z] at h2; cases h2)⟩
      have a3 : w ≠ 9 := fun z => (by rw [z] at h3; cases h3)
      have a4 : w ≠ 0 ∧ w ≠ 1 ∧ w ≠ 2 ∧ w ≠ 3 ∧ w ≠ 15 := ⟨fun z => (by rw [z] at h4; cases h4), fun z => (by rw [z] at h4; cases h4), fun z => (by rw [z] at h4; cases h4), fun z => (by rw [z] at h4; cases h4), fun z => (by rw [z] at h4; cases h4)⟩
      have a5 : w ≠ 7 ∧ w ≠ 8 := ⟨fun z => (by rw [z] at h8; cases h8), fun z => (by rw [z] at h8; cases h8)⟩
      have a6 : w ≠ 12 := fun z => (by rw [z] at h7; cases h7)
      omega
    have e : bendB zs w i = if Nat.beq w 4 then !decide (bendV zs w i = 0) else if has [5, 8] w then decide (bendV zs w i < 0) else decide (0 < bendV zs w i) := by unfold bendB; rw [md']; rfl
    have v : bendV zs w i = zA zs (i - 1) + zA zs (i + 1) - 2 * zA zs i := by unfold bendV; rw [h8]; rfl
    rw [e, v]
    generalize zA zs (i - 1) + zA zs (i + 1) = p at *
    generalize zA zs i = q at *
    rcases h456 with rfl | rfl | rfl
    · rw [ret_one (dix3 u1 u2 u3 ky.1 rfl)]
      have d : decide (p = q + q) = decide (p - 2 * q = 0) := by rw [decide_eq_decide]; omega
      rw [d]; rfl
    · rw [ret_one (dix3 u1 u2 u3 ky.2.1 rfl)]
      have d : decide (p < q + q) = decide (p - 2 * q < 0) := by rw [decide_eq_decide]; omega
      rw [d]; rfl
    · rw [ret_one (dix3 u1 u2 u3 ky.2.2 rfl)]
      have d : decide (q + q < p) = decide (0 < p - 2 * q) := by rw [decide_eq_decide]; omega
      rw [d]; rfl
/-- .. at two -/
theorem c_bad2 {jb : Nat} (h : At P jb lawbadF) (n : Nat) (hz : Row zs) (hw : w < 17) (hi : i < zs.length) (hj : j < zs.length) (hp : has [10, 11] w = true) : evC P gl sb fuel (n + 1) jb [(.sh, .tup (zs.map .int)), (.sh, W w), (.sh, .tup [.int i, .int j])] s = .ok (.sh, .bl (pairB zs w i j)) s := by
  rw [open_ h _ _ rfl]
  let c : Cc := ⟨gl, sb, evC P gl sb fuel n, fuel⟩
  let env0 : Env := [some (false, .tup (zs.map .int)), some (false, W w), some (false, .tup [.int i, .int j]), none, none, none, none, none, none, none]
  let env : Env := envQ zs w (.tup [.int i, .int j]) i none none none none none
  let env2 : Env := envQ zs w (.tup [.int i, .int j]) i (some (false, .int j)) none none none none
  have a1 : evS c ((.par [(.nm 3), (.nm 4)] [(.bc .len [(.v 0)]), (.ix (.v 2) (.k (.int 0)))])) env0 s = .nx env s := by
    have x : evE c (.ix (.v 2) (.k (.int 0))) env0 s = .ok (.sh, .int i) s := rfl
    have l : evE c (.bc .len [(.v 0)]) env0 s = .ok (.sh, .int zs.length) s := by simp [evSs, evS, evE, evEs, evTs, evT, Out.bind, Out.sr, lift, SR.seq, ixV, truD, cmD, opD, plainD, eqD, setS, setV, keep, bcD, dat, ixD, optS, asgV, asgVs, asgD, asgDs, backF, Ev.lent, Ev.leaves, testsD, keeps, flatD, inD, itV, itW, isLo, isSeq, itD, owned, Ev.unown, mixed, isFr, Ev.settle, oneI, slD, isiD, augV, flatAt, noEx, env0]
    rw [evS, evEs, bind_ok l, evEs, bind_ok x]; rfl
  have t1 : evE c (.cmp .in_ (.v 1) (.lst [(.k (.str ⟨#[115, 117, 98]⟩)), (.k (.str ⟨#[115, 117, 112, 101, 114]⟩))])) env s = .ok (.sh, .bl true) s := by
    rw [← hp]
    exact in_words (l := [10, 11]) (k := .fr) (show env[1]? = some (some (false, W w)) from rfl) hw (lt_of (by decide)) (.inr rfl) rfl
  have a2 : evS c (.asg (.nm 5) (.ix (.v 2) (.k (.int 1)))) env s = .nx env2 s := rfl
  have ij : evE c (.op .add (.v 4) (.v 5)) env2 s = .ok (.sh, .int ((i + j : Nat) : Int)) s := rfl
  have q1 : evE c (.cmp .lt (.op .add (.v 4) (.v 5)) (.v 3)) env2 s = .ok (.sh, .bl (decide (((i + j : Nat) : Int) < (zs.length : Int)))) s := cmp_ok (k' := .sh) (y := .int zs.length) ij rfl rfl
  have r : evE c (.and_ (.cmp .lt (.op .add (.v 4) (.v 5)) (.v 3)) (.ite (.cmp .eq (.v 1) (.k (.str ⟨#[115, 117, 98]⟩))) (.cmp .gt (.ix (.v 0) (.op .add (.v 4) (.v 5))) (.op .add (.ix (.v 0) (.v 4)) (.ix (.v 0) (.v 5)))) (.cmp .lt (.ix (.v 0) (.op .add (.v 4) (.v 5))) (.op .add (.ix (.v 0) (.v 4)) (.ix (.v 0) (.v 5)))))) env2 s = .ok (.sh, .bl (pairB zs w i j)) s := by
    unfold pairB
    by_cases hn : zs.length ≤ i + j
    · have : ¬ (((i + j : Nat) : Int) < (zs.length : Int)) := by omega
      rw [decide_eq_false this] at q1
      rw [and_f q1, if_pos hn]
    · have : (((i + j : Nat) : Int) < (zs.length : Int)) := by omega
      rw [decide_eq_true this] at q1
      rw [and_t q1, if_neg hn]
      have x1 : evE c (.ix (.v 0) (.op .add (.v 4) (.v 5))) env2 s = .ok (.sh, .int (zA zs (i + j))) s := ix_ok (k := .sh) (l := zs.map D.int) (d0 := .tup (zs.map D.int)) (.inl rfl) rfl ij (atZ (by omega))
      have x2 : evE c (.ix (.v 0) (.v 4)) env2 s = .ok (.sh, .int (zA zs i)) s := ix_ok (k := .sh) (k' := .sh) (j := i) (l := zs.map D.int) (d0 := .tup (zs.map D.int)) (.inl rfl) rfl rfl (atZ hi)
      have x3 : evE c (.ix (.v 0) (.v 5)) env2 s = .ok (.sh, .int (zA zs j)) s := ix_ok (k := .sh) (k' := .sh) (j := j) (l := zs.map D.int) (d0 := .tup (zs.map D.int)) (.inl rfl) rfl rfl (atZ hj)
      have x4 : evE c (.op .add (.ix (.v 0) (.v 4)) (.ix (.v 0) (.v 5))) env2 s = .ok (.sh, .int (zA zs i + zA zs j)) s := op_ok x2 x3 rfl
      have e10 : evE c (.cmp .eq (.v 1) (.k (.str ⟨#[115, 117, 98]⟩))) env2 s = .ok (.sh, .bl (Nat.beq w 10)) s := eq_word (j := 10) (show env2[1]? = some (some (false, W w)) from rfl) hw (by decide)
      exact ite_ok e10 (cmp_ok x1 x4 rfl) (cmp_ok x1 x4 rfl)
  show backF _ (evSs c (_ :: .ifs _ [.asg (.nm 5) (.ix (.v 2) (.k (.int 1))), .ret _] [] :: lawbadF.body.drop 2) env0 s) = _
  have b : evS c (.ifs (.cmp .in_ (.v 1) (.lst [(.k (.str ⟨#[115, 117, 98]⟩)), (.k (.str ⟨#[115, 117, 112, 101, 114]⟩))])) [.asg (.nm 5) (.ix (.v 2) (.k (.int 1))), .ret (.and_ (.cmp .lt (.op .add (.v 4) (.v 5)) (.v 3)) (.ite (.cmp .eq (.v 1) (.k (.str ⟨#[115, 117, 98]⟩))) (.cmp .gt (.ix (.v 0) (.op .add (.v 4) (.v 5))) (.op .add (.ix (.v 0) (.v 4)) (.ix (.v 0) (.v 5)))) (.cmp .lt (.ix (.v 0) (.op .add (.v 4) (.v 5))) (.op .add (.ix (.v 0) (.v 4)) (.ix (.v 0) (.v 5))))))] []) env s = .rt (.sh, .bl (pairB zs w i j)) s := by
    rw [ifs_t t1, seq_one a2, ret_one r]
  rw [seq_one a1, evSs, b]; rfl
end
end Ev
set_option Elab.async false
set_option linter.all false
set_option maxRecDepth 100000
set_option maxHeartbeats 400000
namespace Ev
open PySem PySem.Spec PyProof.Rows L2
/-! ### objections -/
def iD (l : List Nat) : List D := l.map fun i : Nat => D.int (i : Int)
def badL (zs : List Int) (w : Nat) : List Nat → Bool
  | [i] => itB zs w i
  | [i, j] => pairB zs w i j
  | _ => false
/-- all places that an objection could name -/
def rowsL (n w : Nat) : List (List Nat) := if has [10, 11] w then (List.range n).flatMap fun i => (List.range n).map fun j => [i, j] else (List.range n).map fun i => [i]
def objs (zs : List Int) (w : Nat) : List (List Nat) := (rowsL zs.length w).filter (badL zs w)
def objO (zs : List Int) (w : Nat) : Option (List Nat) := (objs zs w).head?
def objD (w : Nat) : Option (List Nat) → D
  | some l => .tup (W w :: iD l)
  | none => .non
section
variable {P : List Fn} {gl : List D} {sb : List (Nat × Nat)} {fuel : Nat} {zs : List Int} {w i j : Nat} {s : Sg} {js jb jp jq ji g3 g4 g5 jf : Nat}
/-- two clauses of names, a test in the second -/
def one2t (c : Cc) (elt : E) (tg1 : Tg) (k1 : IK) (ies1 : List E) (t : E) (own1 : List Nat) : Env → Sg → Out (List D) := fun e s => (testsD (evTs c []) e s).bind fun b s1 => if b then (evEs c ies1 e s1).bind fun xs s2 => (lift (itW k1 xs) s2).bind fun items1 s3 =>
        lcLoop (asgD tg1) (fun e s => (testsD (evTs c [t]) e s).bind fun b s1 => if b then (evE c elt e s1).bind fun x s2 => lift ((keep x).map fun d => [d]) s2 else .ok [] s1) items1 (wipeE e own1) s3 else .ok [] s1
theorem one2t_ok {c : Cc} {env : Env} {elt t : E} {tg1 : Tg} {k1 : IK} {ies1 : List E} {own1 : List Nat} {xs : List VD} {items : List D} {ds : List D} (h1 : evEs c ies1 env s = .ok xs s) (h2 : itW k1 xs = some items) (h3 : lcLoop (asgD tg1) (fun e s => (testsD (evTs c [t]) e s).bind fun b s1 => if b then (evE c elt e s1).bind fun x s2 => lift ((keep x).map fun d => [d]) s2 else .ok [] s1) items (wipeE env own1) s = .ok ds s) : one2t c elt tg1 k1 ies1 t own1 env s = .ok ds s := by
  unfold one2t
  show ((evEs c ies1 env s).bind _) = _
  rw [bind_ok h1, h2]
  exact h3
theorem lc2t_ok {c : Cc} {env : Env} {elt t : E} {tg tg1 : Tg} {k k1 : IK} {ies ies1 : List E} {own own1 : List Nat} {xs : List VD} {items ds : List D} (h1 : evEs c ies env s = .ok xs s) (h2 : itV k xs = some items) (h3 : lcLoop (asgD tg) (one2t c elt tg1 k1 ies1 t own1) items (wipeE env own) s = .ok ds s) (h4 : ds.length ≤ 1000) : evE c (.lc2 elt tg k ies [] tg1 k1 ies1 [t] own own1) env s = .ok (.fr, .lst ds) s := by
  rw [evE, bind_ok h1, h2]
  show (noEx (lcLoop (asgD tg) (one2t c elt tg1 k1 ies1 t own1) items (wipeE env own) s)).bind _ = _
  rw [h3]
  show small ds s = _
  unfold small
  rw [if_pos (sz1000 h4)]
theorem rng_flat2 (f : Nat → List D) (m : Nat) : (rngI 0 (m : Int)).flatMap (fun d => match d with | .int y => f y.toNat | _ => []) = (List.range m).flatMap f := by
  unfold rngI
  rw [Int.sub_zero, Int.toNat_natCast]
  generalize List.range m = l
  induction l with
  | nil => rfl
  | cons k r ih =>
    rw [List.map_cons, List.flatMap_cons, List.flatMap_cons, ih]
    show f (0 + (k : Int)).toNat ++ _ = _
    rw [Int.zero_add, Int.toNat_natCast]
def foundF (jq ji g5 : Nat) : Fn := ⟨7, 2, [(.asg (.nm 2) (.rng false [(.bc .len [(.v 0)])])),
  (.ifs (.cmp .in_ (.v 1) (.g g5)) [(.lk [2] (.asg (.nm 3) (.lc2 (.tup [(.v 4), (.v 5)]) (.nm 4) .seq [(.v 2)] [] (.nm 5) .seq [(.v 2)] [(.call jq [(.v 0), (.v 1), (.v 4), (.v 5)])] [4, 5] [5])))] [(.asg (.nm 3) (.lc (.tup [(.v 6)]) (.nm 6) .seq [(.v 2)] [(.call ji [(.v 0), (.v 1), (.v 6)])] [6]))]),
  (.lk [1] (.ret (.ite (.cmp .gt (.bc .len [(.v 3)]) (.k (.int 0))) (.op .add (.tup [(.v 1)]) (.ix (.v 3) (.k (.int 0)))) (.k .non))))]⟩
theorem objs_two (zs : List Int) (w : Nat) : ∀ l ∈ objs zs w, l.length ≤ 2 := fun l hl => by
  have := (List.mem_filter.mp hl).2
  match l, this with
  | [_], _ => simp
  | [_, _], _ => simp
  | [], h => cases h
  | _ :: _ :: _ :: _, h => cases h
theorem objs_len (zs : List Int) (w : Nat) (h : zs.length ≤ 12) : (objs zs w).length ≤ 1000 := by
  refine Nat.le_trans (List.length_filter_le _ _) ?_
  unfold rowsL
  split
  · rw [List.length_flatMap]
    simp only [List.length_map, List.length_range, List.map_const', List.sum_replicate_nat]
    have : zs.length * zs.length ≤ 12 * 12 := Nat.mul_le_mul h h
    omega
  · rw [List.length_map, List.length_range]; omega
theorem c_found (I : Kn P gl js jb jp jq ji g3 g4) (hf : At P jf (foundF jq ji g5)) (h5 : gl[g5]? = some (stD [10, 11])) (n : Nat) (hz : Row zs) (hw : w < 17) : evC P gl sb fuel (n + 3) jf [(.sh, .tup (zs.map .int)), (.sh, W w)] s = .ok (.sh, objD w (objO zs w)) s := by
  rw [open_ hf _ _ rfl]
  have l2 := hz.2.1
  let c : Cc := ⟨gl, sb, evC P gl sb fuel (n + 2), fuel⟩
  let env0 : Env := [some (false, .tup (zs.map .int)), some (false, W w), none, none, none, none, none]
  let env1 : Env := [some (false, .tup (zs.map .int)), some (false, W w), some (true, .lst (rngI 0 zs.length)), none, none, none, none]
  let o : Bool := !has [10, 11] w
  let env2 : Env := [some (false, .tup (zs.map .int)), some (false, W w), some (o, .lst (rngI 0 zs.length)), some (true, .lst ((objs zs w).map fun l => .tup (iD l))), none, none, none]
  have a1 : evS c (.asg (.nm 2) (.rng false [(.bc .len [(.v 0)])])) env0 s = .nx env1 s := by
    have l : evEs c [(.bc .len [(.v 0)])] env0 s = .ok [(.sh, .int zs.length)] s := by simp [evSs, evS, evE, evEs, evTs, evT, Out.bind, Out.sr, lift, SR.seq, ixV, truD, cmD, opD, plainD, eqD, setS, setV, keep, bcD, dat, ixD, optS, asgV, asgVs, asgD, asgDs, backF, Ev.lent, Ev.leaves, testsD, keeps, flatD, inD, itV, itW, isLo, isSeq, itD, owned, Ev.unown, mixed, isFr, Ev.settle, oneI, slD, isiD, augV, flatAt, noEx, env0]
    have b : evE c (.rng false [(.bc .len [(.v 0)])]) env0 s = .ok (.fr, .lst (rngI 0 zs.length)) s := by
      have r1 := rgBd (m := zs.length) (by omega)
      have r2 : decide ((zs.length : Int) ≤ 1000000) = true := decide_eq_true (by omega)
      rw [evE, bind_ok l]
      show (if rgOk 0 (zs.length : Int) && decide ((zs.length : Int) ≤ 1000000) then _ else _) = _
      rw [r1, r2]; rfl
    exact asg_fr b
  have g5' : evE c (.g g5) env1 s = .ok (.sh, .tup ([10, 11].map W)) s := by rw [evE, h5]; rfl
  have t : evE c (.cmp .in_ (.v 1) (.g g5)) env1 s = .ok (.sh, .bl (has [10, 11] w)) s := in_words (show env1[1]? = some (some (false, W w)) from rfl) hw (lt_of (by decide)) (.inl rfl) g5'
  have a2 : evS c (.ifs (.cmp .in_ (.v 1) (.g g5)) [(.lk [2] (.asg (.nm 3) (.lc2 (.tup [(.v 4), (.v 5)]) (.nm 4) .seq [(.v 2)] [] (.nm 5) .seq [(.v 2)] [(.call jq [(.v 0), (.v 1), (.v 4), (.v 5)])] [4, 5] [5])))] [(.asg (.nm 3) (.lc (.tup [(.v 6)]) (.nm 6) .seq [(.v 2)] [(.call ji [(.v 0), (.v 1), (.v 6)])] [6]))]) env1 s = .nx env2 s := by
    cases hp : has [10, 11] w with
    | true =>
      rw [hp] at t
      let env3 : Env := [some (false, .tup (zs.map .int)), some (false, W w), some (false, .lst (rngI 0 zs.length)), none, none, none, none]
      have e : ∀ m : Nat, m < zs.length → one2t c (.tup [(.v 4), (.v 5)]) (.nm 5) .seq [(.v 2)] (.call jq [(.v 0), (.v 1), (.v 4), (.v 5)]) [5] ((wipeE env3 [4, 5]).set 4 (some (false, .int (m : Int)))) s = .ok ((List.range zs.length).flatMap fun j => if pairB zs w m j then [.tup (iD [m, j])] else []) s := fun m hm => by
        rw [← rng_flat2]
        refine one2t_ok (xs := [(.sh, .lst (rngI 0 zs.length))]) rfl rfl (lcLoop_pure _ (fun d hd => ?_))
        obtain ⟨j, hj, rfl⟩ := rng_mem hd
        let e4 : Env := [some (false, .tup (zs.map .int)), some (false, W w), some (false, .lst (rngI 0 zs.length)), none, some (false, .int (m : Int)), some (false, .int (j : Int)), none]
        refine ⟨e4, rfl, ?_⟩
        have tt : testsD (evTs c [.call jq [(.v 0), (.v 1), (.v 4), (.v 5)]]) e4 s = .ok (pairB zs w m j) s := by
          have q : evE c (.call jq [(.v 0), (.v 1), (.v 4), (.v 5)]) e4 s = .ok (.sh, .bl (pairB zs w m j)) s := call4 rfl rfl rfl rfl (c_pair I.hq (n + 1) hz hw hm hj)
          show (evE c _ e4 s).bind _ = _
          rw [bind_ok q]; rfl
        rw [bind_ok tt]
        show _ = Out.ok (if pairB zs w m (j : Int).toNat then [D.tup (iD [m, (j : Int).toNat])] else []) s
        rw [Int.toNat_natCast]
        cases pairB zs w m j <;> rfl
      have v : (objs zs w).map (fun l => D.tup (iD l)) = (List.range zs.length).flatMap fun m => (List.range zs.length).flatMap fun j => if pairB zs w m j then [D.tup (iD [m, j])] else [] := by
        unfold objs rowsL
        rw [hp]
        simp only [if_true]
        generalize List.range zs.length = r2
        have inn : ∀ (m : Nat) (l : List Nat), ((l.map fun j => [m, j]).filter (badL zs w)).map (fun l => D.tup (iD l)) = l.flatMap fun j => if pairB zs w m j then [D.tup (iD [m, j])] else [] := fun m l => by
          induction l with
          | nil => rfl
          | cons k r ih =>
            rw [List.map_cons, List.filter_cons, List.flatMap_cons, ← ih]
            show (if pairB zs w m k = true then _ else _ : List (List Nat)).map _ = _
            cases pairB zs w m k <;> rfl
        have out : ∀ l : List Nat, ((l.flatMap fun i => r2.map fun j => [i, j]).filter (badL zs w)).map (fun l => D.tup (iD l)) = l.flatMap fun m => r2.flatMap fun j => if pairB zs w m j then [D.tup (iD [m, j])] else [] := fun l => by
          induction l with
          | nil => rfl
          | cons k r ih =>
            rw [List.flatMap_cons, List.filter_append, List.map_append, ih, inn, List.flatMap_cons]
        exact out r2
      have b : evE c (.lc2 (.tup [(.v 4), (.v 5)]) (.nm 4) .seq [(.v 2)] [] (.nm 5) .seq [(.v 2)] [(.call jq [(.v 0), (.v 1), (.v 4), (.v 5)])] [4, 5] [5]) env3 s = .ok (.fr, .lst ((objs zs w).map fun l => .tup (iD l))) s := by
        refine lc2t_ok (xs := [(.sh, .lst (rngI 0 zs.length))]) rfl rfl ?_ (by rw [List.length_map]; exact objs_len zs w l2)
        rw [v, ← rng_flat2]
        refine lcLoop_pure _ (fun d hd => ?_)
        obtain ⟨m, hm, rfl⟩ := rng_mem hd
        refine ⟨_, rfl, ?_⟩
        have := e m hm
        show _ = Out.ok ((List.range zs.length).flatMap fun j => if pairB zs w (m : Int).toNat j then [D.tup (iD [(m : Int).toNat, j])] else []) s
        rw [Int.toNat_natCast]
        exact this
      have u : Ev.unown env1 [2] = env3 := rfl
      have st : evS c (.lk [2] (.asg (.nm 3) (.lc2 (.tup [(.v 4), (.v 5)]) (.nm 4) .seq [(.v 2)] [] (.nm 5) .seq [(.v 2)] [(.call jq [(.v 0), (.v 1), (.v 4), (.v 5)])] [4, 5] [5]))) env1 s = .nx env2 s := by
        rw [evS, u, asg_fr b]
        show SR.nx _ s = SR.nx [_, _, some (!has [10, 11] w, _), _, _, _, _] s
        rw [hp]; rfl
      rw [ifs_t t, seq_one st]; rfl
    | false =>
      rw [hp] at t
      have b := lc_seqt (c := c) (e := .tup [.v 6]) (a := .v 2) (t := .call ji [(.v 0), (.v 1), (.v 6)]) (x := 6) (env := env1) (s := s) (own := [6]) (k := .lo) (d0 := .lst (rngI 0 zs.length)) (l := rngI 0 zs.length) (fun d => .tup [d]) (fun d => match d with | .int y => itB zs w y.toNat | _ => false) (.inr rfl) (by rw [rngI_len]; omega) rfl (fun d hd => by
        obtain ⟨m, hm, rfl⟩ := rng_mem hd
        show _ = Out.ok (Kd.sh, D.bl (itB zs w (m : Int).toNat)) s
        rw [Int.toNat_natCast]
        exact call3 rfl rfl rfl (c_it I n hz hw hm)) (fun d hd _ => by
        obtain ⟨m, hm, rfl⟩ := rng_mem hd
        rfl)
      have v : ((rngI 0 zs.length).filter fun d => match d with | .int y => itB zs w y.toNat | _ => false).map (fun d => D.tup [d]) = (objs zs w).map fun l => .tup (iD l) := by
        unfold objs rowsL rngI
        rw [hp, Int.sub_zero, Int.toNat_natCast]
        simp only [Bool.false_eq_true, if_false]
        generalize List.range zs.length = l
        induction l with
        | nil => rfl
        | cons k r ih =>
          rw [List.map_cons, List.map_cons, List.filter_cons, List.filter_cons]
          show (if itB zs w (0 + (k : Int)).toNat = true then _ else _ : List D).map _ = (if itB zs w k = true then _ else _ : List (List Nat)).map _
          rw [Int.zero_add, Int.toNat_natCast]
          cases itB zs w k with
          | false => exact ih
          | true =>
            rw [if_pos rfl, if_pos rfl, List.map_cons, List.map_cons, ih]; rfl
      rw [v] at b
      have st : evS c (.asg (.nm 3) (.lc (.tup [(.v 6)]) (.nm 6) .seq [(.v 2)] [(.call ji [(.v 0), (.v 1), (.v 6)])] [6])) env1 s = .nx env2 s := by
        rw [asg_fr b]
        show SR.nx _ s = SR.nx [_, _, some (!has [10, 11] w, _), _, _, _, _] s
        rw [hp]; rfl
      rw [ifs_f t, seq_one st]; rfl
  show backF _ (evSs c [_, _, .lk [1] (.ret _)] env0 s) = _
  rw [seq_one a1, seq_one a2]
  have u : Ev.unown env2 [1] = env2 := rfl
  unfold objO
  have ex : ∀ os : List (List Nat), (∀ l ∈ os, l.length ≤ 2) → evE c (.ite (.cmp .gt (.bc .len [(.v 3)]) (.k (.int 0))) (.op .add (.tup [(.v 1)]) (.ix (.v 3) (.k (.int 0)))) (.k .non)) [some (false, .tup (zs.map .int)), some (false, W w), some (o, .lst (rngI 0 zs.length)), some (true, .lst (os.map fun l => .tup (iD l))), none, none, none] s = .ok (.sh, objD w os.head?) s := fun os hos => by
    cases os with
    | nil => rfl
    | cons l r =>
      have z1 : decide ((0 : Int) < ((((l :: r).map fun l => D.tup (iD l)).length : Nat) : Int)) = true := by
        rw [List.map_cons, List.length_cons]; exact decide_eq_true (by omega)
      have tl : evE c (.cmp .gt (.bc .len [(.v 3)]) (.k (.int 0))) [some (false, .tup (zs.map .int)), some (false, W w), some (o, .lst (rngI 0 zs.length)), some (true, .lst ((l :: r).map fun l => .tup (iD l))), none, none, none] s = .ok (.sh, .bl true) s := by
        rw [← z1]; rfl
      have x3 : evE c (.ix (.v 3) (.k (.int 0))) [some (false, .tup (zs.map .int)), some (false, W w), some (o, .lst (rngI 0 zs.length)), some (true, .lst ((l :: r).map fun l => .tup (iD l))), none, none, none] s = .ok (.sh, .tup (iD l)) s := ix_ok (k := .lo) (k' := .sh) (j := 0) (l := (l :: r).map fun l => .tup (iD l)) (.inr rfl) rfl rfl (by rw [List.map_cons]; exact at0 _ _)
      have x1 : evE c (.tup [(.v 1)]) [some (false, .tup (zs.map .int)), some (false, W w), some (o, .lst (rngI 0 zs.length)), some (true, .lst ((l :: r).map fun l => .tup (iD l))), none, none, none] s = .ok (.sh, .tup [W w]) s := rfl
      rw [evE, bind_ok tl]
      have hl := hos l (List.mem_cons_self ..)
      exact op_ok x1 x3 (by
        show (if [W w].length + (iD l).length ≤ sizeLine then some (Kd.sh, D.tup ([W w] ++ iD l)) else none) = _
        rw [if_pos (sz1000 (by simp [iD]; omega))]; rfl)
  rw [evSs, evS, u, ret_sh (ex (objs zs w) (objs_two zs w))]; rfl
end
end Ev
set_option Elab.async false
set_option linter.all false
set_option maxRecDepth 100000
set_option maxHeartbeats 400000
namespace Ev
open PySem PySem.Spec PyProof.Rows L2
/-! ### slices, steps -/
theorem cut_tl (l : List D) (k : Nat) : cutD l (some (k : Int)) none = l.drop k := by
  unfold cutD
  rw [HT.sIx_none, HT.sIx_nat]
  by_cases h : k ≤ l.length
  · rw [Nat.min_eq_left h, List.take_of_length_le (by rw [List.length_drop]; omega)]
  · rw [Nat.min_eq_right (by omega), List.drop_of_length_le (Nat.le_refl _), List.take_nil, List.drop_of_length_le (by omega)]
theorem cut_hd (l : List D) (k : Nat) : cutD l none (some (k : Int)) = l.take k := by
  unfold cutD
  rw [HT.sIx_none, HT.sIx_nat, List.drop_zero, Nat.sub_zero]
  by_cases h : k ≤ l.length
  · rw [Nat.min_eq_left h]
  · rw [Nat.min_eq_right (by omega), List.take_of_length_le (Nat.le_refl _), List.take_of_length_le (by omega)]
theorem cut_last (l : List D) : cutD l (some (-1)) none = l.drop (l.length - 1) := by
  unfold cutD
  rw [HT.sIx_none]
  show (l.drop ((-1 : Int) + (l.length : Int)).toNat).take (l.length - ((-1 : Int) + (l.length : Int)).toNat) = _
  have e : ((-1 : Int) + (l.length : Int)).toNat = l.length - 1 := by omega
  rw [e, List.take_of_length_le (by rw [List.length_drop]; omega)]
theorem cut_init (l : List D) : cutD l none (some (-1)) = l.take (l.length - 1) := by
  unfold cutD
  rw [HT.sIx_none, List.drop_zero, Nat.sub_zero]
  show l.take ((-1 : Int) + (l.length : Int)).toNat = _
  have e : ((-1 : Int) + (l.length : Int)).toNat = l.length - 1 := by omega
  rw [e]
theorem cut_mem {l : List D} {lo hi : Option Int} {d : D} (h : d ∈ cutD l lo hi) : d ∈ l := List.mem_of_mem_drop (List.mem_of_mem_take h)
theorem cut_len (l : List D) (lo hi : Option Int) : (cutD l lo hi).length ≤ l.length := by
  unfold Ev.cutD
  rw [List.length_take, List.length_drop]; omega
section
variable {c : Cc} {env : Env} {s s1 s2 : Sg} {P : List Fn} {gl : List D} {sb : List (Nat × Nat)} {fuel : Nat} {zs : List Int}
theorem sl_lo {a b : E} {k k' : Kd} {l : List D} {j : Int} (ha : evE c a env s = .ok (k, .tup l) s1) (hb : evE c b env s1 = .ok (k', .int j) s2) : evE c (.sl a [b] []) env s = .ok (.sh, .tup (cutD l (some j) none)) s2 := by
  rw [evE, bind_ok ha, evEs1 hb]; rfl
theorem sl_hi {a b : E} {k k' : Kd} {l : List D} {j : Int} (ha : evE c a env s = .ok (k, .tup l) s1) (hb : evE c b env s1 = .ok (k', .int j) s2) : evE c (.sl a [] [b]) env s = .ok (.sh, .tup (cutD l none (some j))) s2 := by
  rw [evE, bind_ok ha]
  show ((evEs c [b] env s1).bind _).bind _ = _
  rw [evEs1 hb]; rfl
theorem sl_loL {a b : E} {k k' : Kd} {l : List D} {j : Int} (ha : evE c a env s = .ok (k, .lst l) s1) (hb : evE c b env s1 = .ok (k', .int j) s2) : evE c (.sl a [b] []) env s = .ok (.fr, .lst (cutD l (some j) none)) s2 := by
  rw [evE, bind_ok ha, evEs1 hb]; rfl
theorem sl_hiL {a b : E} {k k' : Kd} {l : List D} {j : Int} (ha : evE c a env s = .ok (k, .lst l) s1) (hb : evE c b env s1 = .ok (k', .int j) s2) : evE c (.sl a [] [b]) env s = .ok (.fr, .lst (cutD l none (some j))) s2 := by
  rw [evE, bind_ok ha]
  show ((evEs c [b] env s1).bind _).bind _ = _
  rw [evEs1 hb]; rfl
theorem tup2 {a b : E} {x y : D} (ha : evE c a env s = .ok (.sh, x) s1) (hb : evE c b env s1 = .ok (.sh, y) s2) : evE c (.tup [a, b]) env s = .ok (.sh, .tup [x, y]) s2 := by
  rw [evE, evEs, bind_ok ha, evEs1 hb]; rfl
theorem tup1 {a : E} {x : D} (ha : evE c a env s = .ok (.sh, x) s1) : evE c (.tup [a]) env s = .ok (.sh, .tup [x]) s1 := by
  rw [evE, evEs1 ha]; rfl
/-- a row's steps -/
def stepsI (zs : List Int) : List Int := List.zipWith (fun a b => b - a) zs (zs.drop 1)
theorem stepsI_len (zs : List Int) : (stepsI zs).length = zs.length - 1 := by
  unfold stepsI
  rw [List.length_zipWith, List.length_drop]; omega
theorem stepsI_at {zs : List Int} {k : Nat} (h : k + 1 < zs.length) : (stepsI zs).getD k 0 = zs.getD (k + 1) 0 - zs.getD k 0 := by
  have hl : k < (stepsI zs).length := by rw [stepsI_len]; omega
  rw [List.getD_eq_getElem?_getD, List.getElem?_eq_getElem hl, List.getD_eq_getElem?_getD, List.getElem?_eq_getElem h, List.getD_eq_getElem?_getD, List.getElem?_eq_getElem (by omega : k < zs.length)]
  simp [stepsI]
theorem zip_steps (l r : List Int) : (((l.map D.int).zip (r.map D.int)).map fun p => D.tup [p.1, p.2]).flatMap (fun d => match d with | .tup [.int a, .int b] => [D.int (b - a)] | _ => []) = (List.zipWith (fun a b => b - a) l r).map .int := by
  induction l generalizing r with
  | nil => rfl
  | cons a l ih =>
    cases r with
    | nil => rfl
    | cons b r =>
      rw [List.map_cons, List.map_cons, List.zip_cons_cons, List.map_cons, List.flatMap_cons, ih, List.zipWith_cons_cons, List.map_cons]; rfl
def stepsF : Fn := ⟨3, 1, [(.lk [0] (.ret (.lc (.op .sub (.v 2) (.v 1)) (.tu [(.nm 1), (.nm 2)]) .zp [(.v 0), (.sl (.v 0) [(.k (.int 1))] [])] [] [1, 2])))]⟩
theorem c_steps {j : Nat} (h : At P j stepsF) (n : Nat) (hz : zs.length ≤ 1000) : evC P gl sb fuel (n + 1) j [(.sh, .tup (zs.map .int))] s = .ok (.fr, .lst ((stepsI zs).map .int)) s := by
  rw [open_ h _ _ rfl]
  let c : Cc := ⟨gl, sb, evC P gl sb fuel n, fuel⟩
  let env : Env := [some (false, .tup (zs.map .int)), none, none]
  have v0 : evE c (.v 0) env s = .ok (.sh, .tup (zs.map .int)) s := rfl
  have sl : evE c (.sl (.v 0) [(.k (.int 1))] []) env s = .ok (.sh, .tup ((zs.drop 1).map .int)) s := by
    have q := sl_lo (b := .k (.int 1)) (j := ((1 : Nat) : Int)) v0 rfl
    rw [cut_tl, ← List.map_drop] at q
    exact q
  have es : evEs c [(.v 0), (.sl (.v 0) [(.k (.int 1))] [])] env s = .ok [(.sh, .tup (zs.map .int)), (.sh, .tup ((zs.drop 1).map .int))] s := by
    rw [evEs, bind_ok v0, evEs1 sl]; rfl
  have r : evE c (.lc (.op .sub (.v 2) (.v 1)) (.tu [(.nm 1), (.nm 2)]) .zp [(.v 0), (.sl (.v 0) [(.k (.int 1))] [])] [] [1, 2]) env s = .ok (.fr, .lst ((stepsI zs).map .int)) s := by
    unfold stepsI
    rw [← zip_steps]
    refine lc_pureT (k := .zp) (s1 := s) (items := ((zs.map D.int).zip ((zs.drop 1).map D.int)).map fun p => D.tup [p.1, p.2]) _ es rfl (fun d hd => ?_) (by
      rw [zip_steps, List.length_map, List.length_zipWith]; exact sz1000 (by omega))
    obtain ⟨⟨p, q⟩, hm, rfl⟩ := List.mem_map.mp hd
    obtain ⟨h1, h2⟩ := List.of_mem_zip hm
    obtain ⟨a, _, rfl⟩ := List.mem_map.mp h1
    obtain ⟨b, _, rfl⟩ := List.mem_map.mp h2
    exact ⟨_, rfl, rfl⟩
  have u : Ev.unown env [0] = env := rfl
  have st : evS c (.ret (.lc (.op .sub (.v 2) (.v 1)) (.tu [(.nm 1), (.nm 2)]) .zp [(.v 0), (.sl (.v 0) [(.k (.int 1))] [])] [] [1, 2])) env s = .rt (.fr, .lst ((stepsI zs).map .int)) s := by
    rw [evS, r]; rfl
  show backF _ (evSs c [.lk [0] (.ret _)] env s) = _
  rw [evSs, evS, u, st]; rfl
end
end Ev
set_option Elab.async false
set_option linter.all false
set_option maxRecDepth 100000
set_option maxHeartbeats 4000000
namespace Ev
open PySem PySem.Spec PyProof.Rows L2
/-! ### slopes, rows of ints of any size -/
section
variable {P : List Fn} {gl : List D} {sb : List (Nat × Nat)} {fuel : Nat} {jw jl jk jx gs : Nat}
theorem c_slopeA (hjw : At P jw wholeF) (g0 : gl[gs]? = some (.int 2000)) (hl : At P jl (slopeF jw gs)) (n : Nat) {v : Int} (h0 : -2000 ≤ v) (h1 : v ≤ 2000) (s : Sg) : evC P gl sb fuel (n + 2) jl [(.sh, .int v)] s = .ok (.sh, .bl true) s := by
  rw [open_ hl _ _ rfl]
  have w0 : evC P gl sb fuel (n + 1) jw [(.sh, .int v)] s = .ok (.sh, .bl true) s := c_whole hjw n rfl s
  simp [evSs, evS, evE, evEs, evTs, evT, Out.bind, Out.sr, lift, SR.seq, ixV, truD, cmD, opD, plainD, eqD, setS, setV, keep, bcD, dat, ixD, optS, asgV, asgVs, asgD, asgDs, backF, Ev.lent, Ev.leaves, testsD, keeps, flatD, inD, itV, itW, isLo, isSeq, itD, owned, Ev.unown, mixed, isFr, Ev.settle, oneI, slD, isiD, augV, flatAt, noEx, envOf, slopeF, w0, g0, h0, h1]
theorem c_checkslopeA (hjw : At P jw wholeF) (g0 : gl[gs]? = some (.int 2000)) (hl : At P jl (slopeF jw gs)) (hk : At P jk (cslopeF jl jx)) (n : Nat) {v : Int} (h0 : -2000 ≤ v) (h1 : v ≤ 2000) (s : Sg) : evC P gl sb fuel (n + 3) jk [(.sh, .int v)] s = .ok (.sh, .non) s := by
  rw [open_ hk _ _ rfl]
  have e1 := c_slopeA (sb := sb) (fuel := fuel) hjw g0 hl n h0 h1 s
  simp [evSs, evS, evE, evEs, evTs, evT, Out.bind, Out.sr, lift, SR.seq, ixV, truD, cmD, opD, plainD, eqD, setS, setV, keep, bcD, dat, ixD, optS, asgV, asgVs, asgD, asgDs, backF, Ev.lent, Ev.leaves, testsD, keeps, flatD, inD, itV, itW, isLo, isSeq, itD, owned, Ev.unown, mixed, isFr, Ev.settle, oneI, slD, isiD, augV, flatAt, noEx, envOf, cslopeF, e1]
/-- the numbers of a row fit -/
def fitB (zs : List Int) : Bool := zs.all fun z => decide (-1000 ≤ z) && decide (z ≤ 1000)
theorem fitB_row {zs : List Int} (h1 : 1 ≤ zs.length) (h2 : zs.length ≤ 12) (h : fitB zs = true) : Row zs := ⟨h1, h2, fun z hz => by
  have := List.all_eq_true.mp h z hz
  simpa using this⟩
theorem fitB_of {zs : List Int} (h : Row zs) : fitB zs = true := List.all_eq_true.mpr fun z hz => by
  have := h.2.2 z hz
  simpa using this
theorem c_isrowI {w a b r : Nat} (hw : At P w wholeF) (hr : At P r (rowF w a b)) (ha : gl[a]? = some (.int 12)) (hb : gl[b]? = some (.int 1000)) (n : Nat) {zs : List Int} (h1 : 1 ≤ zs.length) (h2 : zs.length ≤ 12) (s : Sg) : evC P gl sb fuel (n + 2) r [(.sh, .tup (zs.map .int))] s = .ok (.sh, .bl (fitB zs)) s := by
  rw [open_ hr _ _ rfl]
  have l1 : (1 : Int) ≤ (zs.length : Int) := by omega
  have l2 : (zs.length : Int) ≤ 12 := by omega
  let c : Cc := ⟨gl, sb, evC P gl sb fuel (n + 1), fuel⟩
  let env : Ev.Env := [some (false, .tup (zs.map .int)), none]
  have e1 : evS c (.ifs (.or_ (.not_ (.isi .tuple (.v 0))) (.not_ (.chn .le .le (.k (.int 1)) (.bc .len [(.v 0)]) (.g a)))) [(.ret (.k (.bl false)))] []) env s = .nx env s := by
    simp [evSs, evS, evE, evEs, evTs, evT, Out.bind, Out.sr, lift, SR.seq, ixV, truD, cmD, opD, plainD, eqD, setS, setV, keep, bcD, dat, ixD, optS, asgV, asgVs, asgD, asgDs, backF, Ev.lent, Ev.leaves, testsD, keeps, flatD, inD, itV, itW, isLo, isSeq, itD, owned, Ev.unown, mixed, isFr, Ev.settle, oneI, slD, isiD, augV, flatAt, noEx, c, env, l1, l2, ha]
  have e2 := lc_seq (c := c) (e := (.and_ (.call w [(.v 1)]) (.chn .le .le (.neg (.g b)) (.v 1) (.g b)))) (a := .v 0) (x := 1) (env := env) (s := s) (own := [1]) (k := .sh) (d0 := .tup (zs.map .int)) (l := zs.map D.int) (fun d => match d with | .int z => .bl (decide (-1000 ≤ z) && decide (z ≤ 1000)) | _ => .non) (.inl rfl) (by rw [List.length_map]; omega) rfl (fun d hd => by
    obtain ⟨y, hy, rfl⟩ := List.mem_map.mp hd
    have w0 : evC P gl sb fuel (n + 1) w [(.sh, .int y)] s = .ok (.sh, .bl true) s := c_whole hw n rfl s
    by_cases y1 : -1000 ≤ y
    · simp [evSs, evS, evE, evEs, evTs, evT, Out.bind, Out.sr, lift, SR.seq, ixV, truD, cmD, opD, plainD, eqD, setS, setV, keep, bcD, dat, ixD, optS, asgV, asgVs, asgD, asgDs, backF, Ev.lent, Ev.leaves, testsD, keeps, flatD, inD, itV, itW, isLo, isSeq, itD, owned, Ev.unown, mixed, isFr, Ev.settle, oneI, slD, isiD, augV, flatAt, noEx, c, env, wipeE, w0, hb, y1]
    · simp [evSs, evS, evE, evEs, evTs, evT, Out.bind, Out.sr, lift, SR.seq, ixV, truD, cmD, opD, plainD, eqD, setS, setV, keep, bcD, dat, ixD, optS, asgV, asgVs, asgD, asgDs, backF, Ev.lent, Ev.leaves, testsD, keeps, flatD, inD, itV, itW, isLo, isSeq, itD, owned, Ev.unown, mixed, isFr, Ev.settle, oneI, slD, isiD, augV, flatAt, noEx, c, env, wipeE, w0, hb, y1])
  have e3 : (zs.map D.int).map (fun d => match d with | .int z => D.bl (decide (-1000 ≤ z) && decide (z ≤ 1000)) | _ => .non) = zs.map fun z => .bl (decide (-1000 ≤ z) && decide (z ≤ 1000)) := by rw [List.map_map]; rfl
  rw [e3] at e2
  have e4 := bc1 e2 (all_map zs _)
  show backF _ (evSs c [_, .ret _] env s) = _
  rw [seq_one e1, evSs, ret_sh e4]; rfl
end
end Ev
set_option Elab.async false
set_option linter.all false
set_option maxRecDepth 100000
set_option maxHeartbeats 4000000
namespace Ev
open PySem PySem.Spec PyProof.Rows L2
/-! ### comprehensions over ranges of two bounds, with tests -/
def rngL (a b : Int) : List Int := (List.range (b - a).toNat).map fun i => a + (i : Nat)
theorem rngL_I (a b : Int) : rngI a b = (rngL a b).map D.int := by unfold rngI rngL; rw [List.map_map]; rfl
theorem rngL_mem {a b y : Int} : y ∈ rngL a b ↔ a ≤ y ∧ y < b := by
  unfold rngL
  rw [List.mem_map]
  constructor
  · rintro ⟨i, hi, rfl⟩
    rw [List.mem_range] at hi
    omega
  · rintro ⟨h1, h2⟩
    exact ⟨(y - a).toNat, by rw [List.mem_range]; omega, by omega⟩
theorem rngL_len (a b : Int) : (rngL a b).length = (b - a).toNat := by unfold rngL; rw [List.length_map, List.length_range]
section
variable {c : Cc} {e a t r r2 : E} {x y : Nat} {env : Env} {s : Sg}
/-- [e for x in .. if t] -/
theorem lc_gt {k : IK} {ies : List E} {xs : List VD} {items : List D} {own : List Nat} (f : D → D) (b : D → Bool) (hi : evEs c ies env s = .ok xs s) (hk : itV k xs = some items) (hm : items.length ≤ 1000) (ht : ∀ d ∈ items, evE c t ((wipeE env own).set x (some (false, d))) s = .ok (.sh, .bl (b d)) s)
    (h : ∀ d ∈ items, b d = true → evE c e ((wipeE env own).set x (some (false, d))) s = .ok (.sh, f d) s) : evE c (.lc e (.nm x) k ies [t] own) env s = .ok (.fr, .lst ((items.filter b).map f)) s := by
  have q : ∀ l : List D, l.flatMap (fun d => if b d then [f d] else []) = (l.filter b).map f := fun l => by
    induction l with
    | nil => rfl
    | cons d r ih =>
      rw [List.flatMap_cons, ih, List.filter_cons]
      cases b d <;> rfl
  rw [← q]
  refine lc_pure (s1 := s) (xs := xs) (items := items) _ hi hk (fun d hd => ?_) (by
    rw [q, List.length_map]
    exact sz1000 (Nat.le_trans (List.length_filter_le _ _) hm))
  show ((evE c t _ s).bind _).bind _ = _
  rw [bind_ok (ht d hd)]
  show (Out.ok (b d) s).bind _ = _
  rw [bind_ok rfl]
  cases hb : b d with
  | false => rfl
  | true =>
    show (evE c e _ s).bind _ = _
    rw [bind_ok (h d hd hb)]; rfl
/-- [e for x in ..] -/
theorem lc_g {k : IK} {ies : List E} {xs : List VD} {items : List D} {own : List Nat} (f : D → D) (hi : evEs c ies env s = .ok xs s) (hk : itV k xs = some items) (hm : items.length ≤ 1000)
    (h : ∀ d ∈ items, evE c e ((wipeE env own).set x (some (false, d))) s = .ok (.sh, f d) s) : evE c (.lc e (.nm x) k ies [] own) env s = .ok (.fr, .lst (items.map f)) s := by
  rw [← flatMap_one]
  refine lc_pure (s1 := s) (xs := xs) (items := items) _ hi hk (fun d hd => ?_) (by rw [flatMap_one, List.length_map]; exact sz1000 hm)
  show (evE c e _ s).bind _ = _
  rw [bind_ok (h d hd)]; rfl
theorem evEs2 {a b : E} {x y : VD} (h : evE c a env s = .ok x s) (h2 : evE c b env s = .ok y s) : evEs c [a, b] env s = .ok [x, y] s := by
  rw [evEs, bind_ok h, evEs, bind_ok h2]; rfl
theorem itV_r2 {i j : Int} (h0 : -1000000 ≤ i) (h1 : i ≤ 1000000) (h2 : -1000000 ≤ j) (h3 : j ≤ 1000000) : itV .rg2 [(.sh, .int i), (.sh, .int j)] = some ((rngL i j).map .int) := by
  have o : rgOk i j = true := by
    unfold rgOk
    simp
    omega
  show (if rgOk i j then some (rngI i j) else none) = _
  rw [if_pos o, rngL_I]
/-- [e for x in range(i, j)] -/
theorem lc_r2 {i j : Int} {own : List Nat} (f : Int → D) (h0 : -1000000 ≤ i) (h1 : i ≤ 1000000) (h2 : -1000000 ≤ j) (h3 : j ≤ 1000000) (hm : j - i ≤ 1000) (hr : evE c r env s = .ok (.sh, .int i) s) (hr2 : evE c r2 env s = .ok (.sh, .int j) s)
    (h : ∀ y, i ≤ y → y < j → evE c e ((wipeE env own).set x (some (false, .int y))) s = .ok (.sh, f y) s) : evE c (.lc e (.nm x) .rg2 [r, r2] [] own) env s = .ok (.fr, .lst ((rngL i j).map f)) s := by
  have q := lc_g (c := c) (e := e) (x := x) (env := env) (s := s) (own := own) (fun d => match d with | .int y => f y | _ => .non) (evEs2 hr hr2) (itV_r2 h0 h1 h2 h3) (by rw [List.length_map, rngL_len]; omega) (fun d hd => by
    obtain ⟨y, hy, rfl⟩ := List.mem_map.mp hd
    obtain ⟨y0, y1⟩ := rngL_mem.mp hy
    exact h y y0 y1)
  rw [List.map_map] at q
  exact q
/-- [e for x in range(i, j) if t] -/
theorem lc_r2t {i j : Int} {own : List Nat} (f : Int → D) (b : Int → Bool) (h0 : -1000000 ≤ i) (h1 : i ≤ 1000000) (h2 : -1000000 ≤ j) (h3 : j ≤ 1000000) (hm : j - i ≤ 1000) (hr : evE c r env s = .ok (.sh, .int i) s) (hr2 : evE c r2 env s = .ok (.sh, .int j) s)
    (ht : ∀ y, i ≤ y → y < j → evE c t ((wipeE env own).set x (some (false, .int y))) s = .ok (.sh, .bl (b y)) s) (h : ∀ y, i ≤ y → y < j → b y = true → evE c e ((wipeE env own).set x (some (false, .int y))) s = .ok (.sh, f y) s) :
    evE c (.lc e (.nm x) .rg2 [r, r2] [t] own) env s = .ok (.fr, .lst (((rngL i j).filter b).map f)) s := by
  have q := lc_gt (c := c) (e := e) (t := t) (x := x) (env := env) (s := s) (own := own) (fun d => match d with | .int y => f y | _ => .non) (fun d => match d with | .int y => b y | _ => false) (evEs2 hr hr2) (itV_r2 h0 h1 h2 h3) (by rw [List.length_map, rngL_len]; omega) (fun d hd => by
    obtain ⟨y, hy, rfl⟩ := List.mem_map.mp hd
    obtain ⟨y0, y1⟩ := rngL_mem.mp hy
    exact ht y y0 y1) (fun d hd hb => by
    obtain ⟨y, hy, rfl⟩ := List.mem_map.mp hd
    obtain ⟨y0, y1⟩ := rngL_mem.mp hy
    exact h y y0 y1 hb)
  rw [List.filter_map, List.map_map] at q
  exact q
/-- [e for x, y in enumerate(a) if t] of ints -/
theorem lc_ent {zs : List Int} {own : List Nat} (f : Nat → Int → D) (b : Nat → Int → Bool) (hm : zs.length ≤ 1000) (ha : evE c a env s = .ok (.sh, .tup (zs.map .int)) s) (ht : ∀ (j : Nat) (hj : j < zs.length), evE c t (((wipeE env own).set x (some (false, .int (j : Int)))).set y (some (false, .int zs[j]))) s = .ok (.sh, .bl (b j zs[j])) s)
    (h : ∀ (j : Nat) (hj : j < zs.length), b j zs[j] = true → evE c e (((wipeE env own).set x (some (false, .int (j : Int)))).set y (some (false, .int zs[j]))) s = .ok (.sh, f j zs[j]) s) : evE c (.lc e (.tu [.nm x, .nm y]) .en [a] [t] own) env s = .ok (.fr, .lst ((zs.zipIdx.filter fun q => b q.2 q.1).map fun q => f q.2 q.1)) s := by
  have q : ∀ (l : List Int) (n : Nat), (((l.map D.int).zipIdx n).map fun p => D.tup [.int p.2, p.1]).flatMap (fun d => match d with | .tup [.int k, .int z] => if b k.toNat z then [f k.toNat z] else [] | _ => []) = ((l.zipIdx n).filter fun q => b q.2 q.1).map fun q => f q.2 q.1 := fun l => by
    induction l with
    | nil => intro _; rfl
    | cons z r ih =>
      intro n
      rw [List.map_cons, List.zipIdx_cons, List.map_cons, List.flatMap_cons, ih, List.zipIdx_cons, List.filter_cons]
      show (if b (n : Int).toNat z then [f (n : Int).toNat z] else []) ++ _ = _
      rw [Int.toNat_natCast]
      cases b n z <;> rfl
  rw [← q]
  refine lc_pureT (s1 := s) (xs := [(.sh, .tup (zs.map .int))]) (items := enums zs) _ (by rw [evEs, bind_ok ha]; rfl) rfl (fun d hd => ?_) (by
    rw [q, List.length_map]
    refine sz1000 (Nat.le_trans (List.length_filter_le _ _) ?_)
    rw [List.length_zipIdx]; exact hm)
  obtain ⟨⟨z, k⟩, hm, rfl⟩ := List.mem_map.mp hd
  obtain ⟨i, hi, e1⟩ := List.getElem_of_mem hm
  rw [List.getElem_zipIdx, List.getElem_map] at e1
  injection e1 with e1 e2
  subst e1
  rw [Nat.zero_add] at e2
  subst e2
  have hk : i < zs.length := by
    rw [List.length_zipIdx, List.length_map] at hi
    exact hi
  refine ⟨_, rfl, ?_⟩
  show ((evE c t _ s).bind _).bind _ = _
  rw [bind_ok (ht i hk)]
  show (Out.ok (b i zs[i]) s).bind _ = _
  rw [bind_ok rfl]
  show _ = Out.ok (if b (i : Int).toNat zs[i] then [f (i : Int).toNat zs[i]] else []) s
  rw [Int.toNat_natCast]
  cases hb : b i zs[i] with
  | false => rfl
  | true =>
    show (evE c e _ s).bind _ = _
    rw [bind_ok (h i hk hb)]; rfl
theorem ite_t {a b d : E} (h : evE c a env s = .ok (.sh, .bl true) s) : evE c (.ite a b d) env s = evE c b env s := by rw [evE, bind_ok h]; rfl
theorem ite_f {a b d : E} (h : evE c a env s = .ok (.sh, .bl false) s) : evE c (.ite a b d) env s = evE c d env s := by rw [evE, bind_ok h]; rfl
theorem neg_ok {a : E} {i : Int} {s1 : Sg} (h : evE c a env s = .ok (.sh, .int i) s1) : evE c (.neg a) env s = .ok (.sh, .int (-i)) s1 := by rw [evE, bind_ok h]; first | done | rfl
end
/-- the ints of a row, by their places -/
theorem zs_rng (zs : List Int) : zs = (List.range zs.length).map fun j => zs.getD j 0 := by
  apply List.ext_getElem
  · rw [List.length_map, List.length_range]
  · intro i h1 h2
    rw [List.getElem_map, List.getElem_range, getD_get h1]
end Ev
set_option Elab.async false
set_option linter.all false
set_option maxRecDepth 100000
set_option maxHeartbeats 1000000
namespace Ev
open PySem PySem.Spec PyProof.Rows L2
/-! ### least sums of two rows -/
def ls (a b : List Int) (k : Nat) : List Int := ((List.range a.length).filter fun i => decide (i ≤ k) && decide (k < b.length + i)).map fun i => a.getD i 0 + b.getD (k - i) 0
def lr (a b : List Int) : List Int := (List.range (a.length + b.length - 1)).map fun k => (minI (ls a b k)).getD 0
theorem lr_len (a b : List Int) : (lr a b).length = a.length + b.length - 1 := by unfold lr; rw [List.length_map, List.length_range]
theorem ls_mem {a b : List Int} {k : Nat} {y : Int} : y ∈ ls a b k ↔ ∃ i, i < a.length ∧ i ≤ k ∧ k < b.length + i ∧ y = a.getD i 0 + b.getD (k - i) 0 := by
  unfold ls
  simp only [List.mem_map, List.mem_filter, List.mem_range, Bool.and_eq_true, decide_eq_true_eq]
  constructor
  · rintro ⟨i, ⟨h1, h2, h3⟩, rfl⟩
    exact ⟨i, h1, h2, h3, rfl⟩
  · rintro ⟨i, h1, h2, h3, rfl⟩
    exact ⟨i, ⟨h1, h2, h3⟩, rfl⟩
theorem ls_ne {a b : List Int} {k : Nat} (ha : 1 ≤ a.length) (hb : 1 ≤ b.length) (hk : k < a.length + b.length - 1) : ls a b k ≠ [] := fun z => by
  by_cases q : k < a.length
  · have : a.getD k 0 + b.getD (k - k) 0 ∈ ls a b k := ls_mem.mpr ⟨k, q, Nat.le_refl _, by omega, rfl⟩
    rw [z] at this; cases this
  · have : a.getD (a.length - 1) 0 + b.getD (k - (a.length - 1)) 0 ∈ ls a b k := ls_mem.mpr ⟨a.length - 1, by omega, by omega, by omega, rfl⟩
    rw [z] at this; cases this
theorem lr_get {a b : List Int} {k : Nat} (hk : k < a.length + b.length - 1) : (lr a b).getD k 0 = (minI (ls a b k)).getD 0 := by
  unfold lr
  rw [List.getD_eq_getElem?_getD, List.getElem?_map, List.getElem?_range hk]; rfl
theorem lr_min {a b : List Int} {k : Nat} (ha : 1 ≤ a.length) (hb : 1 ≤ b.length) (hk : k < a.length + b.length - 1) : minI (ls a b k) = some ((lr a b).getD k 0) := by
  rw [lr_get hk]
  obtain ⟨m, e, _⟩ := Ev.minI_some (ls_ne ha hb hk)
  rw [e]; rfl
theorem lr_le {a b : List Int} {i j : Nat} (hi : i < a.length) (hj : j < b.length) : (lr a b).getD (i + j) 0 ≤ a.getD i 0 + b.getD j 0 := by
  have m := lr_min (a := a) (b := b) (k := i + j) (by omega) (by omega) (by omega)
  obtain ⟨m', e, _, h⟩ := Ev.minI_some (ls_ne (a := a) (b := b) (k := i + j) (by omega) (by omega) (by omega))
  rw [m] at e
  cases e
  refine h _ (ls_mem.mpr ⟨i, hi, by omega, by omega, ?_⟩)
  rw [show i + j - i = j by omega]
theorem lr_at {a b : List Int} {k : Nat} (ha : 1 ≤ a.length) (hb : 1 ≤ b.length) (hk : k < a.length + b.length - 1) : ∃ i j, i < a.length ∧ j < b.length ∧ i + j = k ∧ (lr a b).getD k 0 = a.getD i 0 + b.getD j 0 := by
  obtain ⟨m', e, h1, _⟩ := Ev.minI_some (ls_ne ha hb hk)
  rw [lr_min ha hb hk] at e
  cases e
  obtain ⟨i, h2, h3, h4, h5⟩ := ls_mem.mp h1
  exact ⟨i, k - i, h2, by omega, by omega, h5⟩
/-- a tuple or a list of ints -/
inductive Sq (b : List Int) : D → Prop where
  | t : Sq b (.tup (b.map .int))
  | l : Sq b (.lst (b.map .int))
section
variable {c : Cc} {env : Env} {s : Sg}
theorem sq_len {b : List Int} {d : D} (h : Sq b d) : bcD .len [d] = some (.sh, .int (b.length : Int)) := by
  cases h
  · show some (Kd.sh, D.int ((b.map D.int).length : Int)) = _
    rw [List.length_map]
  · show some (Kd.sh, D.int ((b.map D.int).length : Int)) = _
    rw [List.length_map]
theorem sq_ix {a e : E} {b : List Int} {d : D} {k k' : Kd} {j : Nat} (h : Sq b d) (hj : j < b.length) (ha : evE c a env s = .ok (k, d) s) (he : evE c e env s = .ok (k', .int (j : Int)) s) : evE c (.ix a e) env s = .ok (.sh, .int (b.getD j 0)) s := by
  cases h
  · exact ix_ok (.inl rfl) ha he (atZ hj)
  · exact ix_ok (.inr rfl) ha he (atZ hj)
theorem chn_ok {o o' : Cm} {a b e : E} {x y z : D} {k k' k'' : Kd} {u v : Bool} (h1 : evE c a env s = .ok (k, x) s) (h2 : evE c b env s = .ok (k', y) s) (h3 : evE c e env s = .ok (k'', z) s) (e1 : cmD o x y = some u) (e2 : cmD o' y z = some v) : evE c (.chn o o' a b e) env s = .ok (.sh, .bl (u && v)) s := by
  rw [evE, bind_ok h1, bind_ok h2]
  show (lift (cmD o x y) s).bind _ = _
  rw [e1]
  cases u with
  | false => rfl
  | true =>
    show (evE c e env s).bind _ = _
    rw [bind_ok h3]
    show lift ((cmD o' y z).map _) s = _
    rw [e2]
    rfl
/-- [.., e, ..] appended to a list of one's own, over range(m) -/
theorem app_loop2 {m x i : Nat} {r e : E} {st : S} {env0 : Env} (f : Nat → D) (hm : m ≤ 1000) (hr : evE c r env0 s = .ok (.sh, .int (m : Int)) s) (hi : env0[i]? = some (some (true, .lst []))) (hx : x ≠ i) (hx2 : x < env0.length)
    (he : ∀ (j : Nat) (l : List D) (y : Option (Bool × D)), j < m → evE c e ((env0.set i (some (true, .lst l))).set x (some (false, .int (j : Int)))) s = .ok (.sh, f j) s)
    (hst : ∀ (j : Nat) (l : List D), j < m → evS c st ((env0.set i (some (true, .lst l))).set x (some (false, .int (j : Int)))) s = evS c (.app i e) ((env0.set i (some (true, .lst l))).set x (some (false, .int (j : Int)))) s) :
    ∃ y, evS c (.for_ (.nm x) .rg1 [r] [st]) env0 s = .nx ((env0.set i (some (true, .lst ((List.range m).map f)))).set x y) s := by
  have il : i < env0.length := (List.getElem?_eq_some_iff.mp hi).1
  have loop := forL_nx (asg := asgD (.nm x)) (body := evSs c [st]) (items := rngI 0 m)
    (fun j env s' => s' = s ∧ ∃ y, env = (env0.set i (some (true, .lst ((List.range j).map f)))).set x y) (env := env0) (s := s)
    ⟨rfl, env0[x], by
      rw [show (List.range 0).map f = [] from rfl]
      have h1 : env0.set i (some (true, .lst [])) = env0 := by
        apply List.ext_getElem?
        intro k
        by_cases hk : i = k
        · subst hk; rw [List.getElem?_set_self il, hi]
        · rw [List.getElem?_set_ne hk]
      rw [h1]
      apply List.ext_getElem?
      intro k
      by_cases hk : x = k
      · subst hk; rw [List.getElem?_set_self hx2, List.getElem?_eq_getElem hx2]
      · rw [List.getElem?_set_ne hk]⟩ (fun j d env s' hk hI => by
      obtain ⟨rfl, y, rfl⟩ := hI
      have jm : j < m := by
        have := (List.getElem?_eq_some_iff.mp hk).1
        rw [rngI_len] at this
        omega
      have hd := rngI_get hk
      rw [Int.zero_add] at hd
      subst hd
      let env1 := (env0.set i (some (true, .lst ((List.range j).map f)))).set x (some (false, .int (j : Int)))
      have e1 : asgD (.nm x) (.int (j : Int)) ((env0.set i (some (true, .lst ((List.range j).map f)))).set x y) = some env1 := by
        show some (((env0.set i _).set x y).set x _) = _
        rw [List.set_set]
      have ow : owned env1 i = some ((List.range j).map f) := by
        unfold owned
        have : env1[i]? = some (some (true, .lst ((List.range j).map f))) := by
          rw [List.getElem?_set_ne hx, List.getElem?_set_self il]
        rw [this]
      have a := app_ok (c := c) (s := s') (s1 := s') ow (he j _ y jm) (Nat.lt_of_lt_of_le (by rw [List.length_map, List.length_range]; omega) (sz1000 (Nat.le_refl 1000)))
      refine ⟨env1, _, s', e1, .inl (by rw [evSs, hst j _ jm, a]; rfl), rfl, some (false, .int (j : Int)), ?_⟩
      rw [List.range_succ, List.map_append]
      show ((env0.set i _).set x _).set i _ = (env0.set i _).set x _
      rw [List.set_comm _ _ hx, List.set_set]; rfl)
  obtain ⟨env', s', e2, rfl, y, rfl⟩ := loop
  rw [rngI_len] at e2
  refine ⟨y, ?_⟩
  have t : (((m : Int) - 0).toNat) = m := by omega
  rw [t] at e2
  exact for_ok (evEs1 (x := (.sh, .int (m : Int))) hr) (itW_rg1 hm) e2
/-- [.., e, ..] appended to a list of one's own, over range(m) -/
theorem app_loop {m x i : Nat} {r e : E} {env0 : Env} (f : Nat → D) (hm : m ≤ 1000) (hr : evE c r env0 s = .ok (.sh, .int (m : Int)) s) (hi : env0[i]? = some (some (true, .lst []))) (hx : x ≠ i) (hx2 : x < env0.length)
    (he : ∀ (j : Nat) (l : List D) (y : Option (Bool × D)), j < m → evE c e ((env0.set i (some (true, .lst l))).set x (some (false, .int (j : Int)))) s = .ok (.sh, f j) s) :
    ∃ y, evS c (.for_ (.nm x) .rg1 [r] [.app i e]) env0 s = .nx ((env0.set i (some (true, .lst ((List.range m).map f)))).set x y) s :=
  app_loop2 f hm hr hi hx hx2 he fun _ _ _ => rfl
end
/-! ### the defs -/
def lsumF : Fn := ⟨6, 3, [(.lk [0] (.asg (.nm 3) (.lc (.op .add (.v 5) (.ix (.v 1) (.op .sub (.v 2) (.v 4)))) (.tu [(.nm 4), (.nm 5)]) .en [(.v 0)] [(.chn .le .lt (.k (.int 0)) (.op .sub (.v 2) (.v 4)) (.bc .len [(.v 1)]))] [4, 5]))),
  (.ret (.bc .min [(.v 3)]))]⟩
def lrowF (j : Nat) : Fn := ⟨3, 2, [(.ret (.lc (.call j [(.v 0), (.v 1), (.v 2)]) (.nm 2) .rg1 [(.op .sub (.op .add (.bc .len [(.v 0)]) (.bc .len [(.v 1)])) (.k (.int 1)))] [] [2]))]⟩
def lleastF : Fn := ⟨5, 2, [(.asg (.nm 2) (.lst [])),
  (.for_ (.nm 3) .rg1 [(.op .sub (.op .add (.bc .len [(.v 0)]) (.bc .len [(.v 1)])) (.k (.int 1)))] [(.app 2 (.bc .min [(.lc (.op .add (.ix (.v 0) (.v 4)) (.ix (.v 1) (.op .sub (.v 3) (.v 4)))) (.nm 4) .rg1 [(.bc .len [(.v 0)])] [(.chn .le .lt (.k (.int 0)) (.op .sub (.v 3) (.v 4)) (.bc .len [(.v 1)]))] [4])]))]),
  (.ret (.v 2))]⟩
def ltoldF : Fn := ⟨2, 1, [(.ret (.ite (.bc .all [(.lc (.chn .le .le (.neg (.k (.int 1000))) (.v 1) (.k (.int 1000))) (.nm 1) .seq [(.v 0)] [] [1])]) (.tup [(.k (.int 0)), (.bc .tuple [(.v 0)])]) (.tup [(.k (.int 1)), (.k (.str ⟨#[108, 97, 114, 103, 101]⟩))])))]⟩
section
variable {P : List Fn} {gl : List D} {sb : List (Nat × Nat)} {fuel : Nat} {j jl : Nat} {a b : List Int} {B : D}
theorem chB (i k : Nat) : (decide ((0 : Int) ≤ (k : Int) - (i : Int)) && decide ((k : Int) - (i : Int) < (b.length : Int))) = (decide (i ≤ k) && decide (k < b.length + i)) := by
  congr 1
  · rw [decide_eq_decide]; omega
  · rw [decide_eq_decide]; omega
theorem c_lsum (hj : At P j lsumF) (n : Nat) (ha : 1 ≤ a.length) (ha2 : a.length ≤ 1000) (hb : 1 ≤ b.length) (hB : Sq b B) {k : Nat} (hk : k < a.length + b.length - 1) (s : Sg) :
    evC P gl sb fuel (n + 1) j [(.sh, .tup (a.map .int)), (.sh, B), (.sh, .int (k : Int))] s = .ok (.sh, .int ((lr a b).getD k 0)) s := by
  rw [open_ hj _ _ rfl]
  let c : Cc := ⟨gl, sb, evC P gl sb fuel n, fuel⟩
  let env : Env := [some (false, .tup (a.map .int)), some (false, B), some (false, .int (k : Int)), none, none, none]
  have sub : ∀ i : Nat, ∀ e : Env, e[2]? = some (some (false, .int (k : Int))) → e[4]? = some (some (false, .int (i : Int))) → evE c (.op .sub (.v 2) (.v 4)) e s = .ok (.sh, .int ((k : Int) - (i : Int))) s := fun i e h2 h4 => op_ok (k := .sh) (k' := .sh) (s1 := s) (x := .int (k : Int)) (y := .int (i : Int)) (by simp [evSs, evS, evE, evEs, evTs, evT, Out.bind, Out.sr, lift, SR.seq, ixV, truD, cmD, opD, plainD, eqD, setS, setV, keep, bcD, dat, ixD, optS, asgV, asgVs, asgD, asgDs, backF, Ev.lent, Ev.leaves, testsD, keeps, flatD, inD, itV, itW, isLo, isSeq, itD, owned, Ev.unown, mixed, isFr, Ev.settle, oneI, slD, isiD, augV, flatAt, noEx, h2]) (by simp [evSs, evS, evE, evEs, evTs, evT, Out.bind, Out.sr, lift, SR.seq, ixV, truD, cmD, opD, plainD, eqD, setS, setV, keep, bcD, dat, ixD, optS, asgV, asgVs, asgD, asgDs, backF, Ev.lent, Ev.leaves, testsD, keeps, flatD, inD, itV, itW, isLo, isSeq, itD, owned, Ev.unown, mixed, isFr, Ev.settle, oneI, slD, isiD, augV, flatAt, noEx, h4]) rfl
  have e1 := lc_ent (c := c) (e := (.op .add (.v 5) (.ix (.v 1) (.op .sub (.v 2) (.v 4))))) (t := (.chn .le .lt (.k (.int 0)) (.op .sub (.v 2) (.v 4)) (.bc .len [(.v 1)]))) (a := .v 0) (x := 4) (y := 5) (env := env) (s := s) (own := [4, 5]) (zs := a) (fun i z => .int (z + b.getD (k - i) 0)) (fun i z => decide (i ≤ k) && decide (k < b.length + i)) ha2 rfl (fun i hi => by
    have q := chn_ok (c := c) (o := .le) (o' := .lt) (a := .k (.int 0)) (e := .bc .len [(.v 1)]) (k := .sh) (k' := .sh) (k'' := .sh) (x := .int 0) rfl (sub i (((wipeE env [4, 5]).set 4 (some (false, .int (i : Int)))).set 5 (some (false, .int a[i]))) rfl rfl) (bc1 (k := .sh) rfl (sq_len hB)) (show cmD .le (.int 0) (.int ((k : Int) - (i : Int))) = some (decide ((0 : Int) ≤ (k : Int) - (i : Int))) from rfl) (show cmD .lt (.int ((k : Int) - (i : Int))) (.int (b.length : Int)) = some (decide ((k : Int) - (i : Int) < (b.length : Int))) from rfl)
    rw [chB] at q
    exact q) (fun i hi hc => by
    rw [Bool.and_eq_true, decide_eq_true_eq, decide_eq_true_eq] at hc
    have e : (k : Int) - (i : Int) = ((k - i : Nat) : Int) := by omega
    have u := sub i (((wipeE env [4, 5]).set 4 (some (false, .int (i : Int)))).set 5 (some (false, .int a[i]))) rfl rfl
    rw [e] at u
    exact op_ok (k := .sh) (k' := .sh) (s1 := s) (x := .int a[i]) rfl (sq_ix (k := .sh) (k' := .sh) hB (by omega) rfl u) rfl)
  have q : (a.zipIdx.filter fun q => decide (q.2 ≤ k) && decide (k < b.length + q.2)).map (fun q => D.int (q.1 + b.getD (k - q.2) 0)) = (ls a b k).map .int := by
    rw [zipIdx_rng, List.filter_map, List.map_map]
    unfold ls
    rw [List.map_map]; rfl
  rw [q] at e1
  have u : Ev.unown env [0] = env := rfl
  have b1 : evS c (.lk [0] (.asg (.nm 3) (.lc (.op .add (.v 5) (.ix (.v 1) (.op .sub (.v 2) (.v 4)))) (.tu [(.nm 4), (.nm 5)]) .en [(.v 0)] [(.chn .le .lt (.k (.int 0)) (.op .sub (.v 2) (.v 4)) (.bc .len [(.v 1)]))] [4, 5]))) env s = .nx (env.set 3 (some (true, .lst ((ls a b k).map .int)))) s := by
    rw [evS, u]
    exact asg_fr e1
  have b2 := bc1 (c := c) (e := .v 3) (env := env.set 3 (some (true, .lst ((ls a b k).map .int)))) (s := s) (k := .lo) (d := .lst ((ls a b k).map .int)) rfl (min_ints (lr_min ha hb hk))
  show backF _ (evSs c [_, .ret _] env s) = _
  rw [seq_one b1, evSs, ret_sh b2]; rfl
theorem lr_D (a b : List Int) : (List.range (a.length + b.length - 1)).map (fun k => D.int ((lr a b).getD k 0)) = (lr a b).map .int := by
  apply List.ext_getElem
  · rw [List.length_map, List.length_range, List.length_map, lr_len]
  · intro i h1 h2
    rw [List.length_map, List.length_range] at h1
    rw [List.getElem_map, List.getElem_range, List.getElem_map]
    congr 1
    exact getD_get (by rw [lr_len]; exact h1)
theorem len_ab {c : Cc} {env : Env} {s : Sg} {k : Kd} (ha : 1 ≤ a.length) (hB : Sq b B) (h0 : evE c (.v 0) env s = .ok (.sh, .tup (a.map .int)) s) (h1 : evE c (.v 1) env s = .ok (k, B) s) : evE c (.op .sub (.op .add (.bc .len [(.v 0)]) (.bc .len [(.v 1)])) (.k (.int 1))) env s = .ok (.sh, .int ((a.length + b.length - 1 : Nat) : Int)) s := by
  have e : ((a.length + b.length - 1 : Nat) : Int) = (a.length : Int) + (b.length : Int) - 1 := by omega
  rw [e]
  exact op_ok (k := .sh) (k' := .sh) (s1 := s) (y := .int 1) (op_ok (k := .sh) (k' := .sh) (s1 := s) (bc1 h0 (sq_len .t)) (bc1 h1 (sq_len hB)) rfl) rfl rfl
theorem c_lrow (hj : At P j lsumF) (hl : At P jl (lrowF j)) (n : Nat) (ha : 1 ≤ a.length) (hb : 1 ≤ b.length) (hab : a.length + b.length ≤ 500) (hB : Sq b B) (s : Sg) : evC P gl sb fuel (n + 2) jl [(.sh, .tup (a.map .int)), (.sh, B)] s = .ok (.fr, .lst ((lr a b).map .int)) s := by
  rw [open_ hl _ _ rfl]
  let c : Cc := ⟨gl, sb, evC P gl sb fuel (n + 1), fuel⟩
  let env : Env := [some (false, .tup (a.map .int)), some (false, B), none]
  have e1 := lc_rg (c := c) (e := (.call j [(.v 0), (.v 1), (.v 2)])) (r := (.op .sub (.op .add (.bc .len [(.v 0)]) (.bc .len [(.v 1)])) (.k (.int 1)))) (x := 2) (env := env) (s := s) (own := [2]) (m := a.length + b.length - 1) (fun k => .int ((lr a b).getD k 0)) (by omega) (len_ab (k := .sh) ha hB rfl rfl) (fun k hk => call3 (s1 := s) (s2 := s) (s3 := s) rfl rfl rfl (c_lsum hj n ha (by omega) hb hB hk s))
  rw [lr_D] at e1
  show backF _ (evSs c [.ret _] env s) = _
  rw [evSs, evS, e1]; rfl
theorem lfs_int : ∀ l : List Int, lfs (l.map D.int) = true
  | [] => rfl
  | a :: r => by simp [lfs, lf, lfs_int r]
/-- _law_least, of a row and a row or a list (lent or not) -/
theorem c_lleast (hj : At P j lleastF) (n : Nat) (ha : 1 ≤ a.length) (hb : 1 ≤ b.length) (hab : a.length + b.length ≤ 500) (hB : Sq b B) {kb : Kd} (hk : kb = .sh ∨ kb = .lo) (s : Sg) : evC P gl sb fuel (n + 1) j [(.sh, .tup (a.map .int)), (kb, B)] s = .ok (.fr, .lst ((lr a b).map .int)) s := by
  rw [open_ hj _ _ rfl]
  let c : Cc := ⟨gl, sb, evC P gl sb fuel n, fuel⟩
  let env : Env := [some (false, .tup (a.map .int)), some (false, B), some (true, .lst []), none, none]
  obtain ⟨y, e1⟩ := app_loop (c := c) (s := s) (m := a.length + b.length - 1) (x := 3) (i := 2) (r := (.op .sub (.op .add (.bc .len [(.v 0)]) (.bc .len [(.v 1)])) (.k (.int 1)))) (e := (.bc .min [(.lc (.op .add (.ix (.v 0) (.v 4)) (.ix (.v 1) (.op .sub (.v 3) (.v 4)))) (.nm 4) .rg1 [(.bc .len [(.v 0)])] [(.chn .le .lt (.k (.int 0)) (.op .sub (.v 3) (.v 4)) (.bc .len [(.v 1)]))] [4])])) (env0 := env) (fun k => .int ((lr a b).getD k 0)) (by omega) (len_ab (k := .sh) ha hB rfl rfl) rfl (by decide) (by show 3 < 5; decide) (fun k l y0 hk => by
    let env2 : Env := [some (false, .tup (a.map .int)), some (false, B), some (true, .lst l), some (false, .int (k : Int)), none]
    have e1 := lc_rgt (c := c) (e := (.op .add (.ix (.v 0) (.v 4)) (.ix (.v 1) (.op .sub (.v 3) (.v 4))))) (t := (.chn .le .lt (.k (.int 0)) (.op .sub (.v 3) (.v 4)) (.bc .len [(.v 1)]))) (r := (.bc .len [(.v 0)])) (x := 4) (env := env2) (s := s) (own := [4]) (m := a.length) (fun i => .int (a.getD i 0 + b.getD (k - i) 0)) (fun i => decide (i ≤ k) && decide (k < b.length + i)) (by omega) (bc1 (k := .sh) rfl (sq_len .t)) (fun i hi => by
      have q := chn_ok (c := c) (env := (wipeE env2 [4]).set 4 (some (false, .int (i : Int)))) (s := s) (o := .le) (o' := .lt) (a := .k (.int 0)) (b := .op .sub (.v 3) (.v 4)) (e := .bc .len [(.v 1)]) (k := .sh) (k' := .sh) (k'' := .sh) (x := .int 0) (y := .int ((k : Int) - (i : Int))) rfl rfl (bc1 (k := .sh) rfl (sq_len hB)) (show cmD .le (.int 0) (.int ((k : Int) - (i : Int))) = some (decide ((0 : Int) ≤ (k : Int) - (i : Int))) from rfl) (show cmD .lt (.int ((k : Int) - (i : Int))) (.int (b.length : Int)) = some (decide ((k : Int) - (i : Int) < (b.length : Int))) from rfl)
      rw [chB] at q
      exact q) (fun i hi hc => by
      rw [Bool.and_eq_true, decide_eq_true_eq, decide_eq_true_eq] at hc
      have e : (k : Int) - (i : Int) = ((k - i : Nat) : Int) := by omega
      have u : evE c (.op .sub (.v 3) (.v 4)) ((wipeE env2 [4]).set 4 (some (false, .int (i : Int)))) s = .ok (.sh, .int ((k - i : Nat) : Int)) s := by rw [← e]; rfl
      exact op_ok (k := .sh) (k' := .sh) (s1 := s) (ix_ok (k := .sh) (k' := .sh) (s1 := s) (.inl rfl) rfl rfl (atZ hi)) (sq_ix (k := .sh) (k' := .sh) hB (by omega) rfl u) rfl)
    have q : (((List.range a.length).filter fun i => decide (i ≤ k) && decide (k < b.length + i)).map fun i => D.int (a.getD i 0 + b.getD (k - i) 0)) = (ls a b k).map .int := by
      unfold ls
      rw [List.map_map]; rfl
    rw [q] at e1
    exact bc1 e1 (min_ints (lr_min ha hb hk)))
  rw [lr_D] at e1
  have e0 : evS c (.asg (.nm 2) (.lst [])) [some (false, .tup (a.map .int)), some (false, B), none, none, none] s = .nx env s := rfl
  show backF _ (evSs c [_, _, .ret (.v 2)] [some (false, .tup (a.map .int)), some (false, B), none, none, none] s) = _
  rw [seq_one e0, seq_one e1]
  have z := lfs_int (lr a b)
  rcases hk with rfl | rfl
  · rfl
  · show lift (if lfs ((lr a b).map D.int) = true then some (Kd.fr, D.lst ((lr a b).map D.int)) else none) s = _
    rw [if_pos z]; rfl
/-- _law_told -/
def tldD (l : List Int) : D := if fitB l then .tup [.int 0, .tup (l.map .int)] else .tup [.int 1, .str ⟨#[108, 97, 114, 103, 101]⟩]
theorem c_ltold (hj : At P j ltoldF) (n : Nat) (hl : a.length ≤ 1000) {A : D} (hA : Sq a A) {kb : Kd} (hk : kb = .sh ∨ kb = .lo) (s : Sg) : evC P gl sb fuel (n + 1) j [(kb, A)] s = .ok (.sh, tldD a) s := by
  rw [open_ hj _ _ rfl]
  let c : Cc := ⟨gl, sb, evC P gl sb fuel n, fuel⟩
  let env : Env := [some (false, A), none]
  have hd : A = .tup (a.map D.int) ∨ A = .lst (a.map D.int) := by cases hA <;> simp
  have e1 := lc_seq (c := c) (e := (.chn .le .le (.neg (.k (.int 1000))) (.v 1) (.k (.int 1000)))) (a := .v 0) (x := 1) (env := env) (s := s) (own := [1]) (k := .sh) (d0 := A) (l := a.map D.int) (fun d => match d with | .int z => .bl (decide (-1000 ≤ z) && decide (z ≤ 1000)) | _ => .non) hd (by rw [List.length_map]; exact hl) rfl (fun d hd => by
    obtain ⟨z, hz, rfl⟩ := List.mem_map.mp hd
    exact chn_ok (k := .sh) (k' := .sh) (k'' := .sh) (x := .int (-1000)) (y := .int z) (z := .int 1000) rfl rfl rfl rfl rfl)
  have q : (a.map D.int).map (fun d => match d with | .int z => D.bl (decide (-1000 ≤ z) && decide (z ≤ 1000)) | _ => .non) = a.map fun z => .bl (decide (-1000 ≤ z) && decide (z ≤ 1000)) := by rw [List.map_map]; rfl
  rw [q] at e1
  have e2 := bc1 e1 (all_map a _)
  have tu : bcD .tuple [A] = some (.sh, .tup (a.map .int)) := by cases hA <;> rfl
  have t1 : evE c (.tup [(.k (.int 0)), (.bc .tuple [(.v 0)])]) env s = .ok (.sh, .tup [.int 0, .tup (a.map .int)]) s := by
    rw [evE, evEs, bind_ok (show evE c (.k (.int 0)) env s = .ok (.sh, .int 0) s from rfl), evEs, bind_ok (bc1 (k := .sh) (d := A) rfl tu)]; rfl
  have e3 : evE c (.ite (.bc .all [(.lc (.chn .le .le (.neg (.k (.int 1000))) (.v 1) (.k (.int 1000))) (.nm 1) .seq [(.v 0)] [] [1])]) (.tup [(.k (.int 0)), (.bc .tuple [(.v 0)])]) (.tup [(.k (.int 1)), (.k (.str ⟨#[108, 97, 114, 103, 101]⟩))])) env s = .ok (.sh, tldD a) s := by
    unfold tldD
    cases hf : fitB a with
    | true =>
      have e2 : evE c (.bc .all [(.lc (.chn .le .le (.neg (.k (.int 1000))) (.v 1) (.k (.int 1000))) (.nm 1) .seq [(.v 0)] [] [1])]) env s = .ok (.sh, .bl true) s := by rw [← hf]; exact e2
      rw [ite_t e2, t1]; rfl
    | false =>
      have e2 : evE c (.bc .all [(.lc (.chn .le .le (.neg (.k (.int 1000))) (.v 1) (.k (.int 1000))) (.nm 1) .seq [(.v 0)] [] [1])]) env s = .ok (.sh, .bl false) s := by rw [← hf]; exact e2
      rw [ite_f e2]; rfl
  have lfT : lf (tldD a) = true := by
    unfold tldD
    split
    · simp [lf, lfs, lfs_int]
    · rfl
  show backF _ (evSs c [.ret _] env s) = _
  rw [evSs, ret_sh e3]
  rcases hk with rfl | rfl
  · rfl
  · show lift (if lf (tldD a) = true then some (Kd.sh, tldD a) else none) s = _
    rw [if_pos lfT]; rfl
end
end Ev
set_option Elab.async false
set_option linter.all false
set_option maxRecDepth 100000
set_option maxHeartbeats 1000000
namespace Ev
open PySem PySem.Spec PyProof.Rows L2
/-! ### _law_ask: a def's answer, or the word of what it raised -/
abbrev fnd (d : D) : VD := (.sh, .tup [.int 0, d])
abbrev bad : VD := (.sh, .tup [.int 2, .non])
abbrev rfd (z : Str) : VD := (.sh, .tup [.int 1, .str z])
/-- what _law_ask makes of a def's end -/
def askR : Out VD → Out VD
  | .ok (.sh, d) s => .ok (fnd d) s
  | .ex ⟨1, none⟩ s => .ok bad s
  | .ex ⟨2, some (.str z)⟩ s => .ok (rfd z) s
  | _ => .stk
theorem sz2 : (2 : Nat) ≤ sizeLine := sz1000 (by decide)
structure Sbs (sb : List (Nat × Nat)) : Prop where
  h11 : sb.contains (1, 1) = true
  h12 : sb.contains (1, 2) = false
  h22 : sb.contains (2, 2) = true
theorem ret_seq {c : Cc} {e : E} {env : Env} {s : Sg} (f g : Env → Sg → SR) : (evS c (.ret e) env s).seq f = (evS c (.ret e) env s).seq g := by
  rw [evS]
  cases evE c e env s <;> rfl
theorem hbq {c : Cc} {e : E} {env : Env} {s : Sg} {q : SR} {f : Env → Sg → SR} (h : q = (evSs c [.ret e] env s).seq f) : q = evSs c [.ret e] env s := by
  rw [h, evSs]
  have : evS c (.ret e) env s = .stk ∨ (∃ x s1, evS c (.ret e) env s = .rt x s1) ∨ ∃ x e1 s1, evS c (.ret e) env s = .ex x e1 s1 := by
    rw [evS]
    cases evE c e env s with
    | ok x s1 => exact .inr (.inl ⟨_, _, rfl⟩)
    | ex x s1 => exact .inr (.inr ⟨_, _, _, rfl⟩)
    | stk => exact .inl rfl
  rcases this with h | ⟨_, _, h⟩ | ⟨_, _, _, h⟩ <;> rw [h] <;> rfl
theorem ask_gen {c : Cc} {B : List S} {i : Nat} {env : Env} {s : Sg} {e : E} {r v : Out VD} (hs : Sbs c.sb) (hb : evSs c B env s = evSs c [.ret (.tup [(.k (.int 0)), e])] env s) (he : evE c e env s = r) (hv : askR r = v) (hn : v ≠ .stk) :
    backF false (evSs c [.try_ B [(2, [.hx i (.pr (.int 1))]), (1, [.ret (.tup [(.k (.int 2)), (.k .non)])])]] env s) = v := by
  have go : ∀ q : SR, evSs c B env s = q → evSs c [.try_ B [(2, [.hx i (.pr (.int 1))]), (1, [.ret (.tup [(.k (.int 2)), (.k .non)])])]] env s = ((match q with
    | .ex x e s1 => evH c [(2, [(.hx i (.pr (.int 1)))]), (1, [(.ret (.tup [(.k (.int 2)), (.k .non)]))])] x e s1
    | r => r) : SR).seq fun e s1 => evSs c [] e s1 := fun q hq => by
    rw [← hq]; rfl
  have tup : evSs c [.ret (.tup [(.k (.int 0)), e])] env s = ((evE c (.tup [(.k (.int 0)), e]) env s).sr env fun x s1 => .rt (Ev.leaves x) s1).seq fun e s1 => evSs c [] e s1 := rfl
  have tE : evE c (.tup [(.k (.int 0)), e]) env s = ((evE c e env s).bind fun x s1 => (Out.ok [(Kd.sh, D.int 0), x] s1)).bind fun xs s1 => (lift (keeps xs) s1).bind fun ds s2 => if ds.length ≤ 1000 then .ok (.sh, .tup ds) s2 else .stk := by
    rw [evE, evEs, bind_ok (show evE c (.k (.int 0)) env s = .ok (.sh, .int 0) s from rfl), evEs]
    cases evE c e env s <;> rfl
  rw [go _ hb, tup, tE, he]
  subst hv
  cases r with
  | ok x s1 =>
    obtain ⟨k, d⟩ := x
    cases k with
    | sh => rfl
    | lo => exact absurd rfl hn
    | fr => exact absurd rfl hn
  | stk => exact absurd rfl hn
  | ex x s1 =>
    obtain ⟨x, f⟩ := x
    match x, f with
    | 1, none =>
      show backF false ((evH c [(2, [(.hx i (.pr (.int 1)))]), (1, [(.ret (.tup [(.k (.int 2)), (.k .non)]))])] ⟨1, none⟩ _ s1).seq _) = _
      have z : evH c [(2, [(.hx i (.pr (.int 1)))]), (1, [(.ret (.tup [(.k (.int 2)), (.k .non)]))])] ⟨1, none⟩ env s1 = .rt bad s1 := by
        rw [evH]
        show (if c.sb.contains (1, 2) = true then _ else _) = _
        rw [hs.h12, if_neg Bool.false_ne_true, evH]
        show (if c.sb.contains (1, 1) = true then _ else _) = _
        rw [if_pos hs.h11]
        rfl
      rw [z]; rfl
    | 2, some (.str z) =>
      show backF false ((evH c [(2, [(.hx i (.pr (.int 1)))]), (1, [(.ret (.tup [(.k (.int 2)), (.k .non)]))])] ⟨2, some (.str z)⟩ _ s1).seq _) = _
      have y : evH c [(2, [(.hx i (.pr (.int 1)))]), (1, [(.ret (.tup [(.k (.int 2)), (.k .non)]))])] ⟨2, some (.str z)⟩ env s1 = .rt (rfd z) s1 := by
        rw [evH]
        show (if c.sb.contains (2, 2) = true then _ else _) = _
        rw [if_pos hs.h22]
        rfl
      rw [y]; rfl
    | 0, _ => exact absurd rfl hn
    | 1, some _ => exact absurd rfl hn
    | 2, none => exact absurd rfl hn
    | 2, some (.non) => exact absurd rfl hn
    | 2, some (.bl _) => exact absurd rfl hn
    | 2, some (.int _) => exact absurd rfl hn
    | 2, some (.tup _) => exact absurd rfl hn
    | 2, some (.lst _) => exact absurd rfl hn
    | 2, some (.scr _) => exact absurd rfl hn
    | 2, some (.drw) => exact absurd rfl hn
    | x + 3, _ => exact absurd rfl hn
theorem rs_seq {c : Cc} {st : S} {rest : List S} {env : Env} {s : Sg} {x : Exn} (h : evS c st env s = .ex x env s) : evSs c (st :: rest) env s = .ex x env s := by rw [evSs, h]; rfl
theorem rs_seq2 {c : Cc} {st : S} {rest : List S} {env e2 : Env} {s s2 : Sg} {x : Exn} (h : evS c st env s = .ex x e2 s2) : evSs c (st :: rest) env s = .ex x e2 s2 := by rw [evSs, h]; rfl
theorem pl_ints (n : Nat) : ∀ l : List Int, plainDs n (l.map D.int) = true
  | [] => rfl
  | a :: r => by
    rw [List.map_cons]
    show (plainD n (.int a) && plainDs n (r.map D.int)) = true
    rw [pl_ints n r]
    cases n <;> rfl
theorem eq_intsB : ∀ l m : List Int, eqDs (l.map D.int) (m.map D.int) = decide (l = m)
  | [], [] => by simp [eqDs]
  | [], _ :: _ => by simp [eqDs]
  | _ :: _, [] => by simp [eqDs]
  | a :: r, b :: m => by
    rw [List.map_cons, List.map_cons, eqDs, eq_intsB r m, eqD]
    by_cases h : a = b
    · by_cases k : r = m <;> simp [h, k]
    · simp [h]
theorem eq_ints (l : List Int) : eqDs (l.map D.int) (l.map D.int) = true := by rw [eq_intsB]; exact decide_eq_true rfl
theorem ne_same {d : D} (h : plainD 60 d = true) (e : eqD d d = true) : cmD .ne d d = some false := by
  unfold cmD
  simp [h, e]
theorem bl_ne (a b : Bool) : cmD .ne (.bl a) (.bl b) = some (a != b) := by cases a <;> cases b <;> rfl
theorem is_non (d : D) : cmD .is_ d .non = some (match d with | .non => true | _ => false) := rfl
theorem isnt_non (d : D) : cmD .isnt d .non = some (match d with | .non => false | _ => true) := rfl
theorem lst_nil (l : List Int) : cmD .eq (.lst (l.map .int)) (.lst []) = some l.isEmpty := by
  have : plainD 60 (.lst (l.map .int)) = true := pl_ints 59 l
  unfold cmD
  simp only [this]
  cases l <;> rfl
theorem lst_nilN (l : List Int) : cmD .ne (.lst (l.map .int)) (.lst []) = some (!l.isEmpty) := by
  have : plainD 60 (.lst (l.map .int)) = true := pl_ints 59 l
  unfold cmD
  simp only [this]
  cases l <;> rfl
theorem atI_mem {l : List D} {r : Int} (h0 : 0 ≤ r) (h1 : r < l.length) : ∃ d, L2.atI l r = some d ∧ d ∈ l := by
  obtain ⟨d, h2, h3⟩ := atI_ok h0 h1
  exact ⟨d, h2, List.mem_of_getElem? h3⟩
theorem tld_eq (l : List Int) : cmD .ne (tldD l) (tldD l) = some false := by
  refine ne_same ?_ ?_
  · unfold tldD
    split
    · show (plainD 59 (.int 0) && (plainDs 58 (l.map D.int) && true)) = true
      rw [pl_ints]; rfl
    · rfl
  · unfold tldD
    split
    · simp [eqD, eqDs, eq_ints]
    · simp [eqD, eqDs]
/-- rows that are none; all laws of rows draw one of these -/
def oddF (t : Nat) : Fn := ⟨1, 1, [(.ret (.ix (.lst [(.tup []), (.tup [(.k (.int 1001))]), (.tup [(.neg (.k (.int 1001)))]), (.lst [(.k (.int 0))]), (.k .non), (.k (.int 0)), (.tup [(.k (.bl true))]), (.op .mul (.tup [(.k (.int 0))]) (.k (.int 13))), (.tup [(.k (.str ⟨#[48]⟩))]), (.tup [(.k .non)])]) (.call t [(.v 0), (.k (.int 10))])))]⟩
def odds : List D := [.tup [], .tup [.int 1001], .tup [.int (-1001)], .lst [.int 0], .non, .int 0, .tup [.bl true], .tup (repD 13 [.int 0]), .tup [.str ⟨#[48]⟩], .tup [.non]]
def twoF (r : Nat) : Fn := ⟨4, 2, [(.asg (.nm 2) (.call r [(.v 0), (.v 1)])),
  (.asg (.nm 3) (.call r [(.v 0), (.op .sub (.op .add (.v 1) (.k (.int 1))) (.bc .len [(.v 2)]))])),
  (.lk [2, 3] (.ret (.tup [(.v 2), (.v 3)])))]⟩
def saysF : Fn := ⟨2, 2, [(.ret (.and_ (.isi .bool (.v 0)) (.cmp .eq (.v 0) (.v 1))))]⟩
section
variable {P : List Fn} {gl : List D} {sb : List (Nat × Nat)} {fuel : Nat} {t j r : Nat} {s : Sg}
theorem c_oddrow (ht : P[t]? = some takeF) (hj : At P j (oddF t)) (n : Nat) (hs : Vd s) : ∃ d s', evC P gl sb fuel (n + 2) j [(.sh, .drw)] s = .ok (.sh, d) s' ∧ Vd s' ∧ d ∈ odds := by
  obtain ⟨x, s1, e1, v1, k, rfl, a1, b1⟩ := take_call (gl := gl) (sb := sb) (fuel := fuel) (n := n) ht hs (m := 10) (by omega) (by omega)
  obtain ⟨d1, g1, g2⟩ := atI_mem (l := odds) a1 (by show k < 10; omega)
  let c : Cc := ⟨gl, sb, evC P gl sb fuel (n + 1), fuel⟩
  have q0 : evE c (.lst [(.tup []), (.tup [(.k (.int 1001))]), (.tup [(.neg (.k (.int 1001)))]), (.lst [(.k (.int 0))]), (.k .non), (.k (.int 0)), (.tup [(.k (.bl true))]), (.op .mul (.tup [(.k (.int 0))]) (.k (.int 13))), (.tup [(.k (.str ⟨#[48]⟩))]), (.tup [(.k .non)])]) [some (false, .drw)] s = .ok (.fr, .lst odds) s := rfl
  refine ⟨d1, s1, ?_, v1, g2⟩
  rw [open_ hj _ _ rfl]
  have x := ix_ok (c := c) (k := .fr) (k' := .sh) (.inr rfl) q0 (call2 (i := t) (c := c) (a := .v 0) (b := .k (.int 10)) (env := [some (false, .drw)]) (s := s) rfl rfl e1) g1
  show backF _ (evSs c [.ret _] [some (false, .drw)] s) = _
  rw [evSs, ret_sh x]
  simp only [odds, List.mem_cons, List.not_mem_nil, or_false] at g2
  rcases g2 with rfl | rfl | rfl | rfl | rfl | rfl | rfl | rfl | rfl | rfl <;> rfl
/-- two rows whose sums fit -/
theorem c_two (ht : P[t]? = some takeF) (hr : P[r]? = some (rowB t)) (hj : At P j (twoF r)) (n : Nat) (hs : Vd s) : ∃ (a b : List Int) (s' : Sg), evC P gl sb fuel (n + 3) j [(.sh, .drw), (.sh, .int 12)] s = .ok (.sh, .tup [.tup (a.map .int), .tup (b.map .int)]) s' ∧ Vd s' ∧ Row a ∧ Row b ∧ a.length + b.length ≤ 13 := by
  obtain ⟨x, s1, e1, v1, a, rfl, l1, l2, l3⟩ := row_call (gl := gl) (sb := sb) (fuel := fuel) (n := n) (i := r) ht hr hs (most := 12) (by decide) (by decide)
  obtain ⟨y, s2, e2, v2, b, rfl, k1, k2, k3⟩ := row_call (gl := gl) (sb := sb) (fuel := fuel) (n := n) (i := r) ht hr v1 (most := 13 - (a.length : Int)) (by omega) (by omega)
  refine ⟨a, b, s2, ?_, v2, ⟨l1, by omega, l3⟩, ⟨k1, by omega, k3⟩, by omega⟩
  rw [open_ hj _ _ rfl]
  let c : Cc := ⟨gl, sb, evC P gl sb fuel (n + 2), fuel⟩
  let env : Env := [some (false, .drw), some (false, .int 12), none, none]
  have b1 : evS c (.asg (.nm 2) (.call r [(.v 0), (.v 1)])) env s = .nx (env.set 2 (some (false, .tup (a.map .int)))) s1 := asg_sh (call2 rfl rfl e1)
  have ln : bcD .len [.tup (a.map .int)] = some (.sh, .int (a.length : Int)) := sq_len (.t (b := a))
  have x3 : evE c (.op .sub (.op .add (.v 1) (.k (.int 1))) (.bc .len [(.v 2)])) (env.set 2 (some (false, .tup (a.map .int)))) s1 = .ok (.sh, .int (13 - (a.length : Int))) s1 := op_ok (k := .sh) (k' := .sh) (x := .int 13) rfl (bc1 (k := .sh) rfl ln) rfl
  have b2 : evS c (.asg (.nm 3) (.call r [(.v 0), (.op .sub (.op .add (.v 1) (.k (.int 1))) (.bc .len [(.v 2)]))])) (env.set 2 (some (false, .tup (a.map .int)))) s1 = .nx [some (false, .drw), some (false, .int 12), some (false, .tup (a.map .int)), some (false, .tup (b.map .int))] s2 := asg_sh (call2 rfl x3 e2)
  show backF _ (evSs c [_, _, .lk [2, 3] (.ret _)] env s) = _
  rw [seq_one b1, seq_one b2]; rfl
theorem c_saysB (hj : At P j saysF) (n : Nat) (a b : Bool) (s : Sg) : evC P gl sb fuel (n + 1) j [(.sh, .bl a), (.sh, .bl b)] s = .ok (.sh, .bl (a == b)) s := by
  rw [open_ hj _ _ rfl]
  cases a <;> cases b <;> rfl
end
end Ev
set_option Elab.async false
set_option linter.all false
set_option maxRecDepth 100000
set_option maxHeartbeats 1000000
namespace Ev
open PySem PySem.Spec PyProof.Rows L2
/-! ### comprehensions over pairs, of any kind of walk -/
section
variable {c : Cc} {env : Env} {s : Sg}
theorem lc_pgt {α : Type} {e t : E} {x y : Nat} {l : List α} {own : List Nat} {k : IK} {ies : List E} {xs : List VD} (g g' f : α → D) (b : α → Bool) (hi : evEs c ies env s = .ok xs s) (hk : itV k xs = some (l.map fun p => .tup [g p, g' p])) (hm : l.length ≤ 1000) (ht : ∀ p, p ∈ l → evE c t (((wipeE env own).set x (some (false, g p))).set y (some (false, g' p))) s = .ok (.sh, .bl (b p)) s)
    (h : ∀ p, p ∈ l → b p = true → evE c e (((wipeE env own).set x (some (false, g p))).set y (some (false, g' p))) s = .ok (.sh, f p) s) : evE c (.lc e (.tu [.nm x, .nm y]) k ies [t] own) env s = .ok (.fr, .lst ((l.filter b).map f)) s := by
  have q : ∀ l' : List α, (∀ p ∈ l', p ∈ l) → lcLoop (asgD (.tu [.nm x, .nm y])) (fun e' s => (testsD (evTs c [t]) e' s).bind fun b s1 => if b = true then (evE c e e' s1).bind fun x s2 => lift ((keep x).map fun d => [d]) s2 else .ok [] s1) (l'.map fun p => .tup [g p, g' p]) (wipeE env own) s = .ok ((l'.filter b).map f) s := fun l' => by
    induction l' with
    | nil => intro _; rfl
    | cons p r ih =>
      intro hs
      have hp := hs p (List.mem_cons_self ..)
      rw [List.map_cons, lcLoop]
      have e1 : asgD (.tu [.nm x, .nm y]) (.tup [g p, g' p]) (wipeE env own) = some (((wipeE env own).set x (some (false, g p))).set y (some (false, g' p))) := rfl
      rw [e1]
      show ((testsD (evTs c [t]) _ s).bind _).bind _ = _
      have e2 : testsD (evTs c [t]) (((wipeE env own).set x (some (false, g p))).set y (some (false, g' p))) s = .ok (b p) s := by
        show (evE c t _ s).bind _ = _
        rw [bind_ok (ht p hp)]; rfl
      rw [bind_ok e2, List.filter_cons]
      have rest := ih fun w hw => hs w (List.mem_cons_of_mem _ hw)
      cases hb : b p with
      | false =>
        show (Out.ok [] s).bind _ = _
        rw [bind_ok rfl, bind_ok rest]; rfl
      | true =>
        show ((evE c e _ s).bind _).bind _ = _
        rw [bind_ok (h p hp hb)]
        show (Out.ok [f p] s).bind _ = _
        rw [bind_ok rfl, bind_ok rest]; rfl
  rw [evE, bind_ok hi, hk]
  show (noEx (lcLoop _ _ _ _ _)).bind _ = _
  rw [q l fun p hp => hp]
  show small _ _ = _
  unfold small
  rw [if_pos (sz1000 (by rw [List.length_map]; exact Nat.le_trans (List.length_filter_le _ _) hm))]
theorem lc_pg {α : Type} {e : E} {x y : Nat} {l : List α} {own : List Nat} {k : IK} {ies : List E} {xs : List VD} (g g' f : α → D) (hi : evEs c ies env s = .ok xs s) (hk : itV k xs = some (l.map fun p => .tup [g p, g' p])) (hm : l.length ≤ 1000)
    (h : ∀ p, p ∈ l → evE c e (((wipeE env own).set x (some (false, g p))).set y (some (false, g' p))) s = .ok (.sh, f p) s) : evE c (.lc e (.tu [.nm x, .nm y]) k ies [] own) env s = .ok (.fr, .lst (l.map f)) s := by
  have q : ∀ l' : List α, (∀ p ∈ l', p ∈ l) → lcLoop (asgD (.tu [.nm x, .nm y])) (fun e' s => (testsD (evTs c []) e' s).bind fun b s1 => if b = true then (evE c e e' s1).bind fun x s2 => lift ((keep x).map fun d => [d]) s2 else .ok [] s1) (l'.map fun p => .tup [g p, g' p]) (wipeE env own) s = .ok (l'.map f) s := fun l' => by
    induction l' with
    | nil => intro _; rfl
    | cons p r ih =>
      intro hs
      have hp := hs p (List.mem_cons_self ..)
      rw [List.map_cons, lcLoop]
      have e1 : asgD (.tu [.nm x, .nm y]) (.tup [g p, g' p]) (wipeE env own) = some (((wipeE env own).set x (some (false, g p))).set y (some (false, g' p))) := rfl
      rw [e1]
      have rest := ih fun w hw => hs w (List.mem_cons_of_mem _ hw)
      show ((evE c e _ s).bind _).bind _ = _
      rw [bind_ok (h p hp)]
      show (Out.ok [f p] s).bind _ = _
      rw [bind_ok rfl, bind_ok rest]; rfl
  rw [evE, bind_ok hi, hk]
  show (noEx (lcLoop _ _ _ _ _)).bind _ = _
  rw [q l fun p hp => hp]
  show small _ _ = _
  unfold small
  rw [if_pos (sz1000 (by rw [List.length_map]; exact hm))]
end
section
variable {P : List Fn} {gl : List D} {sb : List (Nat × Nat)} {fuel : Nat} {j jl : Nat} {a b : List Int} {B : D}
theorem len_abA {A : D} {c : Cc} {env : Env} {s : Sg} {k k' : Kd} (ha : 1 ≤ a.length) (hA : Sq a A) (hB : Sq b B) (h0 : evE c (.v 0) env s = .ok (k', A) s) (h1 : evE c (.v 1) env s = .ok (k, B) s) : evE c (.op .sub (.op .add (.bc .len [(.v 0)]) (.bc .len [(.v 1)])) (.k (.int 1))) env s = .ok (.sh, .int ((a.length + b.length - 1 : Nat) : Int)) s := by
  have e : ((a.length + b.length - 1 : Nat) : Int) = (a.length : Int) + (b.length : Int) - 1 := by omega
  rw [e]
  exact op_ok (k := .sh) (k' := .sh) (s1 := s) (y := .int 1) (op_ok (k := .sh) (k' := .sh) (s1 := s) (bc1 h0 (sq_len hA)) (bc1 h1 (sq_len hB)) rfl) rfl rfl
/-- _law_least, of a row and a row or a list (lent or not) -/
theorem c_lleastA {A : D} (hj : At P j lleastF) (n : Nat) (ha : 1 ≤ a.length) (hb : 1 ≤ b.length) (hab : a.length + b.length ≤ 500) (hA : Sq a A) (hB : Sq b B) {kb : Kd} (hk : kb = .sh ∨ kb = .lo) (s : Sg) : evC P gl sb fuel (n + 1) j [(.sh, A), (kb, B)] s = .ok (.fr, .lst ((lr a b).map .int)) s := by
  rw [open_ hj _ _ rfl]
  let c : Cc := ⟨gl, sb, evC P gl sb fuel n, fuel⟩
  let env : Env := [some (false, A), some (false, B), some (true, .lst []), none, none]
  obtain ⟨y, e1⟩ := app_loop (c := c) (s := s) (m := a.length + b.length - 1) (x := 3) (i := 2) (r := (.op .sub (.op .add (.bc .len [(.v 0)]) (.bc .len [(.v 1)])) (.k (.int 1)))) (e := (.bc .min [(.lc (.op .add (.ix (.v 0) (.v 4)) (.ix (.v 1) (.op .sub (.v 3) (.v 4)))) (.nm 4) .rg1 [(.bc .len [(.v 0)])] [(.chn .le .lt (.k (.int 0)) (.op .sub (.v 3) (.v 4)) (.bc .len [(.v 1)]))] [4])])) (env0 := env) (fun k => .int ((lr a b).getD k 0)) (by omega) (len_abA (k := .sh) (k' := .sh) ha hA hB rfl rfl) rfl (by decide) (by show 3 < 5; decide) (fun k l y0 hk => by
    let env2 : Env := [some (false, A), some (false, B), some (true, .lst l), some (false, .int (k : Int)), none]
    have e1 := lc_rgt (c := c) (e := (.op .add (.ix (.v 0) (.v 4)) (.ix (.v 1) (.op .sub (.v 3) (.v 4))))) (t := (.chn .le .lt (.k (.int 0)) (.op .sub (.v 3) (.v 4)) (.bc .len [(.v 1)]))) (r := (.bc .len [(.v 0)])) (x := 4) (env := env2) (s := s) (own := [4]) (m := a.length) (fun i => .int (a.getD i 0 + b.getD (k - i) 0)) (fun i => decide (i ≤ k) && decide (k < b.length + i)) (by omega) (bc1 (k := .sh) rfl (sq_len hA)) (fun i hi => by
      have q := chn_ok (c := c) (env := (wipeE env2 [4]).set 4 (some (false, .int (i : Int)))) (s := s) (o := .le) (o' := .lt) (a := .k (.int 0)) (b := .op .sub (.v 3) (.v 4)) (e := .bc .len [(.v 1)]) (k := .sh) (k' := .sh) (k'' := .sh) (x := .int 0) (y := .int ((k : Int) - (i : Int))) rfl rfl (bc1 (k := .sh) rfl (sq_len hB)) (show cmD .le (.int 0) (.int ((k : Int) - (i : Int))) = some (decide ((0 : Int) ≤ (k : Int) - (i : Int))) from rfl) (show cmD .lt (.int ((k : Int) - (i : Int))) (.int (b.length : Int)) = some (decide ((k : Int) - (i : Int) < (b.length : Int))) from rfl)
      rw [chB] at q
      exact q) (fun i hi hc => by
      rw [Bool.and_eq_true, decide_eq_true_eq, decide_eq_true_eq] at hc
      have e : (k : Int) - (i : Int) = ((k - i : Nat) : Int) := by omega
      have u : evE c (.op .sub (.v 3) (.v 4)) ((wipeE env2 [4]).set 4 (some (false, .int (i : Int)))) s = .ok (.sh, .int ((k - i : Nat) : Int)) s := by rw [← e]; rfl
      exact op_ok (k := .sh) (k' := .sh) (s1 := s) (sq_ix (k := .sh) (k' := .sh) hA hi rfl rfl) (sq_ix (k := .sh) (k' := .sh) hB (by omega) rfl u) rfl)
    have q : (((List.range a.length).filter fun i => decide (i ≤ k) && decide (k < b.length + i)).map fun i => D.int (a.getD i 0 + b.getD (k - i) 0)) = (ls a b k).map .int := by
      unfold ls
      rw [List.map_map]; rfl
    rw [q] at e1
    exact bc1 e1 (min_ints (lr_min ha hb hk)))
  rw [lr_D] at e1
  have e0 : evS c (.asg (.nm 2) (.lst [])) [some (false, A), some (false, B), none, none, none] s = .nx env s := rfl
  show backF _ (evSs c [_, _, .ret (.v 2)] [some (false, A), some (false, B), none, none, none] s) = _
  rw [seq_one e0, seq_one e1]
  have z := lfs_int (lr a b)
  rcases hk with rfl | rfl
  · rfl
  · show lift (if lfs ((lr a b).map D.int) = true then some (Kd.fr, D.lst ((lr a b).map D.int)) else none) s = _
    rw [if_pos z]; rfl
end
/-! ### convex rows -/
def Cvx (b : List Int) : Prop := ∀ k, k + 2 < b.length → 2 * b.getD (k + 1) 0 ≤ b.getD k 0 + b.getD (k + 2) 0
theorem Cvx.step {b : List Int} (h : Cvx b) {u t : Nat} (hu : u + t + 1 < b.length) : b.getD (u + 1) 0 - b.getD u 0 ≤ b.getD (u + t + 1) 0 - b.getD (u + t) 0 := by
  induction t with
  | zero => exact Int.le_refl _
  | succ t ih =>
    have h1 := ih (by omega)
    have h2 := h (u + t) (by omega)
    have e1 : u + (t + 1) + 1 = u + t + 2 := by omega
    have e2 : u + (t + 1) = u + t + 1 := by omega
    rw [e1, e2]
    omega
end Ev
set_option Elab.async false
set_option linter.all false
set_option maxRecDepth 100000
set_option maxHeartbeats 1000000
namespace Ev
open PySem PySem.Spec PyProof.Rows L2
/-! ### lists that are drawn -/
section
variable {c : Cc} {env : Env} {s : Sg}
theorem lc_drawn {e r : E} {x : Nat} {own : List Nat} {m : Nat} (Q : Int → Prop) (hm : m ≤ 1000) (hr : evE c r env s = .ok (.sh, .int (m : Int)) s) (hs : Vd s) (h : ∀ (d : D) (s : Sg), Vd s → ∃ z s', evE c e ((wipeE env own).set x (some (false, d))) s = .ok (.sh, .int z) s' ∧ Vd s' ∧ Q z) :
    ∃ (w : List Int) (s' : Sg), evE c (.lc e (.nm x) .rg1 [r] [] own) env s = .ok (.fr, .lst (w.map .int)) s' ∧ Vd s' ∧ w.length = m ∧ ∀ z ∈ w, Q z := by
  obtain ⟨y, s1, e1, v1, l, rfl, hl, hq⟩ := lc_turn (c := c) (elt := e) (i := x) (k := .rg1) (own := own) (env := env) (ies := [r]) (xs := [(.sh, .int (m : Int))]) (R := fun _ y => ∃ z, y = .int z ∧ Q z) (items := rngI 0 (m : Int)) (s := s) (s1 := s) (evEs1 hr) hs (itV_rg1 hm) (fun d _ s hv => by
    obtain ⟨z, s2, e2, v2, q⟩ := h d s hv
    exact ⟨_, s2, e2, v2, .int z, rfl, z, rfl, q⟩) (by rw [rngI_len]; exact sz1000 (by omega))
  rw [rngI_len] at hl
  have hall : ∀ y ∈ l, ∃ z, y = .int z ∧ Q z := fun y hy => by
    obtain ⟨i, hi, rfl⟩ := List.getElem_of_mem hy
    have hi2 : i < (rngI 0 (m : Int)).length := by rw [rngI_len]; omega
    exact hq i _ _ (List.getElem?_eq_getElem hi2) (List.getElem?_eq_getElem hi)
  obtain ⟨w, rfl⟩ := ints_of (l := l) fun y hy => by
    obtain ⟨z, e, _⟩ := hall y hy
    exact ⟨z, e⟩
  refine ⟨w, s1, e1, v1, by rw [List.length_map] at hl; omega, fun z hz => ?_⟩
  obtain ⟨z', e, q⟩ := hall _ (List.mem_map_of_mem hz)
  injection e with e
  rw [e]; exact q
end
/-! ### _law_convex -/
def cvxF : Fn := ⟨2, 1, [(.ret (.not_ (.bc .any [(.lc (.cmp .lt (.op .add (.ix (.v 0) (.v 1)) (.ix (.v 0) (.op .add (.v 1) (.k (.int 2))))) (.op .mul (.k (.int 2)) (.ix (.v 0) (.op .add (.v 1) (.k (.int 1)))))) (.nm 1) .rg1 [(.op .sub (.bc .len [(.v 0)]) (.k (.int 2)))] [] [1])])))]⟩
def cvB (b : List Int) : Bool := !((rngL 0 ((b.length : Int) - 2)).any fun k => decide (b.getD k.toNat 0 + b.getD (k.toNat + 2) 0 < 2 * b.getD (k.toNat + 1) 0))
theorem cvx_of {b : List Int} (h : cvB b = true) : Cvx b := fun k hk => by
  unfold cvB at h
  rw [Bool.not_eq_true', List.any_eq_false] at h
  have := h (k : Int) (rngL_mem.mpr ⟨by omega, by omega⟩)
  rw [decide_eq_true_eq, Int.toNat_natCast] at this
  omega
section
variable {P : List Fn} {gl : List D} {sb : List (Nat × Nat)} {fuel : Nat} {j : Nat} {b : List Int} {B : D}
theorem c_cvx (hj : At P j cvxF) (n : Nat) (hb : b.length ≤ 1000) (hB : Sq b B) (s : Sg) : evC P gl sb fuel (n + 1) j [(.sh, B)] s = .ok (.sh, .bl (cvB b)) s := by
  rw [open_ hj _ _ rfl]
  let c : Cc := ⟨gl, sb, evC P gl sb fuel n, fuel⟩
  let env : Env := [some (false, B), none]
  have ln : evE c (.op .sub (.bc .len [(.v 0)]) (.k (.int 2))) env s = .ok (.sh, .int ((b.length : Int) - 2)) s := op_ok (k := .sh) (k' := .sh) (s1 := s) (y := .int 2) (bc1 (k := .sh) (d := B) rfl (sq_len hB)) rfl rfl
  have o : rgOk 0 ((b.length : Int) - 2) = true := by
    unfold rgOk
    simp
    omega
  have it : itV .rg1 [(.sh, .int ((b.length : Int) - 2))] = some ((rngL 0 ((b.length : Int) - 2)).map .int) := by
    show (if rgOk 0 ((b.length : Int) - 2) then some (rngI 0 ((b.length : Int) - 2)) else none) = _
    rw [if_pos o, rngL_I]
  have e1 := lc_g (c := c) (e := (.cmp .lt (.op .add (.ix (.v 0) (.v 1)) (.ix (.v 0) (.op .add (.v 1) (.k (.int 2))))) (.op .mul (.k (.int 2)) (.ix (.v 0) (.op .add (.v 1) (.k (.int 1))))))) (x := 1) (env := env) (s := s) (own := [1]) (fun d => match d with | .int k => .bl (decide (b.getD k.toNat 0 + b.getD (k.toNat + 2) 0 < 2 * b.getD (k.toNat + 1) 0)) | _ => .non) (evEs1 ln) it (by rw [List.length_map, rngL_len]; omega) (fun d hd => by
    obtain ⟨y, hy, rfl⟩ := List.mem_map.mp hd
    obtain ⟨y0, y1⟩ := rngL_mem.mp hy
    obtain ⟨k, rfl⟩ : ∃ k : Nat, y = (k : Int) := ⟨y.toNat, by omega⟩
    have f0 : evE c (.v 0) ((wipeE env [1]).set 1 (some (false, .int (k : Int)))) s = .ok (.sh, B) s := rfl
    exact cmp_ok (k := .sh) (k' := .sh) (s1 := s) (op_ok (k := .sh) (k' := .sh) (s1 := s) (sq_ix hB (j := k) (by omega) f0 (k' := .sh) rfl) (sq_ix hB (j := k + 2) (by omega) f0 (k' := .sh) rfl) rfl) (op_ok (k := .sh) (k' := .sh) (s1 := s) (x := .int 2) rfl (sq_ix hB (j := k + 1) (by omega) f0 (k' := .sh) rfl) rfl) rfl)
  have q : ((rngL 0 ((b.length : Int) - 2)).map D.int).map (fun d => match d with | .int k => D.bl (decide (b.getD k.toNat 0 + b.getD (k.toNat + 2) 0 < 2 * b.getD (k.toNat + 1) 0)) | _ => .non) = (rngL 0 ((b.length : Int) - 2)).map fun k => D.bl (decide (b.getD k.toNat 0 + b.getD (k.toNat + 2) 0 < 2 * b.getD (k.toNat + 1) 0)) := by rw [List.map_map]; rfl
  rw [q] at e1
  have e2 := not_ok (bc1 e1 (any_map _ _))
  show backF _ (evSs c [.ret _] env s) = _
  rw [evSs, ret_sh e2]; rfl
end
end Ev
set_option Elab.async false
set_option linter.all false
set_option maxRecDepth 100000
set_option maxHeartbeats 1000000
namespace Ev
open PySem PySem.Spec PyProof.Rows L2
/-! ### sums that run -/
def run : Int → List Int → List Int
  | x, [] => [x]
  | x, y :: r => x :: run (x + y) r
theorem run_len : ∀ (l : List Int) (x : Int), (run x l).length = l.length + 1
  | [], _ => rfl
  | y :: r, x => by rw [run, List.length_cons, run_len r]; rfl
theorem run_at : ∀ (l : List Int) (x : Int) (k : Nat), k ≤ l.length → (run x l).getD k 0 = x + (l.take k).sum
  | [], x, k, h => by
    have : k = 0 := Nat.le_zero.mp h
    subst this; simp [run]
  | y :: r, x, 0, _ => by simp [run]
  | y :: r, x, k + 1, h => by
    rw [run, List.getD_cons_succ, run_at r _ k (by simpa using h), List.take_succ_cons, List.sum_cons]
    omega
theorem run_snoc : ∀ (l : List Int) (x y : Int), run x (l ++ [y]) = run x l ++ [(run x l).getD l.length 0 + y]
  | [], x, y => rfl
  | z :: r, x, y => by
    rw [List.cons_append, run, run_snoc r, run]
    rfl
theorem run_ne (x : Int) (l : List Int) : run x l ≠ [] := fun h => by
  have := run_len l x
  rw [h] at this
  simp at this
theorem run_steps : ∀ (a : List Int), a ≠ [] → run (a.getD 0 0) (stepsI a) = a
  | [], h => absurd rfl h
  | [x], _ => rfl
  | x :: y :: r, _ => by
    have ih := run_steps (y :: r) (by simp)
    have e : stepsI (x :: y :: r) = (y - x) :: stepsI (y :: r) := by unfold stepsI; rfl
    rw [e]
    show x :: run (x + (y - x)) (stepsI (y :: r)) = _
    rw [show x + (y - x) = (y :: r).getD 0 0 by show _ = y; omega, ih]
theorem row_at {a : List Int} {k : Nat} (h : k < a.length) : a.getD k 0 = a.getD 0 0 + ((stepsI a).take k).sum := by
  have ne : a ≠ [] := fun z => by rw [z] at h; exact absurd h (Nat.not_lt_zero _)
  have := run_at (stepsI a) (a.getD 0 0) k (by rw [stepsI_len]; omega)
  rwa [run_steps a ne] at this
section
variable {c : Cc} {env0 : Env} {s : Sg}
/-- for t in ..: found.append(found[-1] + t) -/
theorem run_loop {t i : Nat} {k : IK} {ies : List E} {xs : List VD} {x : Int} {L : List Int} (hL : L.length ≤ 500) (hi : env0[i]? = some (some (true, .lst [.int x]))) (ht : t ≠ i) (ht2 : t < env0.length) (he : evEs c ies env0 s = .ok xs s) (hk : itW k xs = some (L.map .int)) :
    ∃ y, evS c (.for_ (.nm t) k ies [.app i (.op .add (.ix (.v i) (.neg (.k (.int 1)))) (.v t))]) env0 s = .nx ((env0.set i (some (true, .lst ((run x L).map .int)))).set t y) s := by
  have il : i < env0.length := (List.getElem?_eq_some_iff.mp hi).1
  have loop := forL_nx (asg := asgD (.nm t)) (body := evSs c [.app i (.op .add (.ix (.v i) (.neg (.k (.int 1)))) (.v t))]) (items := L.map D.int)
    (fun j env s' => s' = s ∧ ∃ y, env = (env0.set i (some (true, .lst ((run x (L.take j)).map .int)))).set t y) (env := env0) (s := s)
    ⟨rfl, env0[t], by
      rw [show (run x (L.take 0)).map D.int = [.int x] from rfl]
      have h1 : env0.set i (some (true, .lst [.int x])) = env0 := by
        apply List.ext_getElem?
        intro k
        by_cases hk : i = k
        · subst hk; rw [List.getElem?_set_self il, hi]
        · rw [List.getElem?_set_ne hk]
      rw [h1]
      apply List.ext_getElem?
      intro k
      by_cases hk : t = k
      · subst hk; rw [List.getElem?_set_self ht2, List.getElem?_eq_getElem ht2]
      · rw [List.getElem?_set_ne hk]⟩ (fun j d env s' hk hI => by
      obtain ⟨rfl, y, rfl⟩ := hI
      have jm : j < L.length := by
        have := (List.getElem?_eq_some_iff.mp hk).1
        rwa [List.length_map] at this
      have hd : d = .int (L[j]) := by
        rw [List.getElem?_map, List.getElem?_eq_getElem jm] at hk
        injection hk with hk
        exact hk.symm
      subst hd
      let R := run x (L.take j)
      have lR : R.length = j + 1 := by show (run x (L.take j)).length = _; rw [run_len, List.length_take]; omega
      let env1 := (env0.set i (some (true, .lst (R.map .int)))).set t (some (false, .int L[j]))
      have e1 : asgD (.nm t) (.int L[j]) ((env0.set i (some (true, .lst (R.map .int)))).set t y) = some env1 := by
        show some (((env0.set i _).set t y).set t _) = _
        rw [List.set_set]
      have vi : env1[i]? = some (some (true, .lst (R.map .int))) := by rw [List.getElem?_set_ne ht, List.getElem?_set_self il]
      have vt : env1[t]? = some (some (false, .int L[j])) := List.getElem?_set_self (by rw [List.length_set]; exact ht2)
      have ow : owned env1 i = some (R.map .int) := by
        unfold owned
        rw [vi]
      have f1 : evE c (.v i) env1 s' = .ok (.lo, .lst (R.map .int)) s' := by rw [evE, vi]; rfl
      have f2 : evE c (.v t) env1 s' = .ok (.sh, .int L[j]) s' := by rw [evE, vt]; rfl
      have f3 := ix_ok (c := c) (k' := .sh) (b := .neg (.k (.int 1))) (s2 := s') (.inr rfl) f1 rfl (at_last (zs := R) (by omega))
      have f4 : evE c (.op .add (.ix (.v i) (.neg (.k (.int 1)))) (.v t)) env1 s' = .ok (.sh, .int (R.getD (R.length - 1) 0 + L[j])) s' := op_ok (k := .sh) (k' := .sh) (s1 := s') f3 f2 rfl
      have a := app_ok (c := c) (s := s') (s1 := s') ow f4 (Nat.lt_of_lt_of_le (by rw [List.length_map, lR]; omega) (sz1000 (Nat.le_refl 1000)))
      refine ⟨env1, _, s', e1, .inl (by rw [evSs, a]; rfl), rfl, some (false, .int L[j]), ?_⟩
      rw [List.take_succ, List.getElem?_eq_getElem jm]
      show ((env0.set i _).set t _).set i _ = (env0.set i _).set t _
      have q : (run x (L.take j ++ [L[j]])).map D.int = R.map .int ++ [.int (R.getD (R.length - 1) 0 + L[j])] := by
        rw [run_snoc, List.map_append, List.length_take, lR]
        have : min j L.length = j + 1 - 1 := by omega
        rw [this]; rfl
      show _ = (env0.set i (some (true, .lst ((run x (L.take j ++ [L[j]])).map .int)))).set t _
      rw [q, List.set_comm _ _ ht, List.set_set])
  obtain ⟨env', s', e2, rfl, y, rfl⟩ := loop
  rw [List.length_map, List.take_length] at e2
  exact ⟨y, for_ok he hk e2⟩
end
/-! ### merged steps: plain law -/
theorem sum_perm {l m : List Int} (h : l.Perm m) : l.sum = m.sum := by
  induction h with
  | nil => rfl
  | cons x _ ih => rw [List.sum_cons, List.sum_cons, ih]
  | swap x y l => rw [List.sum_cons, List.sum_cons, List.sum_cons, List.sum_cons]; omega
  | trans _ _ h1 h2 => exact h1.trans h2
theorem sortI_perm (l : List Int) : (sortI l).Perm l := List.mergeSort_perm ..
theorem sortI_sorted (l : List Int) : (sortI l).Pairwise (· ≤ ·) := by
  have := List.pairwise_mergeSort (le := fun a b : Int => decide (a ≤ b)) (fun a b c h1 h2 => by simp at *; omega) (fun a b => by simp; omega) l
  exact this.imp fun h => by simpa using h
theorem le_any {L M R : List Int} (hL : L.Pairwise (· ≤ ·)) (hp : L.Perm (M ++ R)) : (L.take M.length).sum ≤ M.sum := by
  induction L generalizing M R with
  | nil =>
    have := hp.length_eq
    have e : M = [] := List.length_eq_zero_iff.mp (by simp at this; omega)
    rw [e]; simp
  | cons x L' ih =>
    cases M with
    | nil => simp
    | cons m M' =>
      obtain ⟨h1, h2⟩ := List.pairwise_cons.mp hL
      have hx : x ∈ (m :: M') ++ R := hp.subset (List.mem_cons_self ..)
      rw [List.length_cons, List.take_succ_cons, List.sum_cons]
      rcases List.mem_append.mp hx with hx | hx
      · have p1 := List.perm_cons_erase hx
        have p2 : L'.Perm ((m :: M').erase x ++ R) := (List.perm_cons x).mp (hp.trans (p1.append_right R))
        have l1 : ((m :: M').erase x).length = M'.length := by rw [List.length_erase_of_mem hx]; rfl
        have s1 : (m :: M').sum = x + ((m :: M').erase x).sum := by rw [sum_perm p1, List.sum_cons]
        have := ih h2 p2
        rw [l1] at this
        omega
      · have p1 := List.perm_cons_erase hx
        have p2 : L'.Perm ((m :: M') ++ R.erase x) := (List.perm_cons x).mp (hp.trans ((p1.append_left (m :: M')).trans List.perm_middle))
        have p3 : L'.Perm (M' ++ (m :: R.erase x)) := p2.trans List.perm_middle.symm
        have hm : x ≤ m := h1 m (p2.symm.subset (by simp))
        have := ih h2 p3
        rw [List.sum_cons]
        omega
theorem le_two {L A B : List Int} (hL : L.Pairwise (· ≤ ·)) (hp : L.Perm (A ++ B)) {i j : Nat} (hi : i ≤ A.length) (hj : j ≤ B.length) : (L.take (i + j)).sum ≤ (A.take i).sum + (B.take j).sum := by
  have p : L.Perm ((A.take i ++ B.take j) ++ (A.drop i ++ B.drop j)) := by
    refine hp.trans ?_
    conv => lhs; rw [← List.take_append_drop i A, ← List.take_append_drop j B]
    rw [List.append_assoc, List.append_assoc]
    refine List.Perm.append_left _ ?_
    rw [← List.append_assoc, ← List.append_assoc]
    exact List.Perm.append_right _ List.perm_append_comm
  have := le_any hL p
  rw [List.length_append, List.length_take, List.length_take, Nat.min_eq_left hi, Nat.min_eq_left hj, List.sum_append] at this
  exact this
theorem eq_two {L A B : List Int} (hL : L.Pairwise (· ≤ ·)) (hA : A.Pairwise (· ≤ ·)) (hB : B.Pairwise (· ≤ ·)) (hp : L.Perm (A ++ B)) {k : Nat} (hk : k ≤ L.length) : ∃ i j, i + j = k ∧ i ≤ A.length ∧ j ≤ B.length ∧ (A.take i).sum + (B.take j).sum = (L.take k).sum := by
  induction L generalizing A B k with
  | nil =>
    have : k = 0 := Nat.le_zero.mp hk
    subst this
    exact ⟨0, 0, rfl, Nat.zero_le _, Nat.zero_le _, by simp⟩
  | cons x L' ih =>
    cases k with
    | zero => exact ⟨0, 0, rfl, Nat.zero_le _, Nat.zero_le _, by simp⟩
    | succ k =>
      obtain ⟨h1, h2⟩ := List.pairwise_cons.mp hL
      have hk' : k ≤ L'.length := by simpa using hk
      have hx : x ∈ A ++ B := hp.subset (List.mem_cons_self ..)
      have low : ∀ y ∈ A ++ B, x ≤ y := fun y hy => by
        rcases List.mem_cons.mp (hp.symm.subset hy) with rfl | h
        · exact Int.le_refl _
        · exact h1 y h
      rcases List.mem_append.mp hx with hx | hx
      · cases A with
        | nil => cases hx
        | cons y A' =>
          obtain ⟨a1, a2⟩ := List.pairwise_cons.mp hA
          have e : y = x := by
            have := low y (by simp)
            rcases List.mem_cons.mp hx with h | h
            · exact h.symm
            · have := a1 x h; omega
          subst e
          have p2 : L'.Perm (A' ++ B) := (List.perm_cons y).mp hp
          obtain ⟨i, j, e, hi, hj, q⟩ := ih h2 a2 hB p2 hk'
          refine ⟨i + 1, j, by omega, by simpa using hi, hj, ?_⟩
          rw [List.take_succ_cons, List.take_succ_cons, List.sum_cons, List.sum_cons]
          omega
      · cases B with
        | nil => cases hx
        | cons y B' =>
          obtain ⟨a1, a2⟩ := List.pairwise_cons.mp hB
          have e : y = x := by
            have := low y (by simp)
            rcases List.mem_cons.mp hx with h | h
            · exact h.symm
            · have := a1 x h; omega
          subst e
          have p2 : L'.Perm (A ++ B') := (List.perm_cons y).mp (hp.trans List.perm_middle)
          obtain ⟨i, j, e, hi, hj, q⟩ := ih h2 hA a2 p2 hk'
          refine ⟨i, j + 1, by omega, hi, by simpa using hj, ?_⟩
          rw [List.take_succ_cons, List.take_succ_cons, List.sum_cons, List.sum_cons]
          omega
def wt (t : Int) (l : List Int) : Int := (l.map fun s => 2 * s - (2 * t + 1)).sum
theorem wt_cons (t x : Int) (l : List Int) : wt t (x :: l) = (2 * x - (2 * t + 1)) + wt t l := by unfold wt; rw [List.map_cons, List.sum_cons]
theorem wt_sum (t : Int) : ∀ l : List Int, wt t l = 2 * l.sum - (2 * t + 1) * l.length
  | [] => by simp [wt]
  | x :: r => by
    rw [wt_cons, wt_sum t r, List.sum_cons, List.length_cons]
    have : (2 * t + 1) * ((r.length + 1 : Nat) : Int) = (2 * t + 1) * (r.length : Int) + (2 * t + 1) := by rw [Int.natCast_add, Int.mul_add]; simp
    rw [this]
    omega
theorem wt_app (t : Int) (l m : List Int) : wt t (l ++ m) = wt t l + wt t m := by unfold wt; rw [List.map_append, List.sum_append]
theorem wt_perm (t : Int) {l m : List Int} (h : l.Perm m) : wt t l = wt t m := sum_perm (h.map _)
def lows (t : Int) (l : List Int) : List Int := l.filter fun s => decide (s ≤ t)
theorem lows_neg (t : Int) : ∀ l : List Int, wt t (lows t l) ≤ 0 ∧ (wt t (lows t l) = 0 → ∀ s ∈ l, t < s)
  | [] => ⟨by simp [wt, lows], fun _ s h => by cases h⟩
  | x :: r => by
    obtain ⟨h1, h2⟩ := lows_neg t r
    unfold lows at *
    rw [List.filter_cons]
    by_cases q : x ≤ t
    · rw [if_pos (by simpa using q), wt_cons]
      exact ⟨by omega, fun h => absurd h (by omega)⟩
    · rw [if_neg (by simpa using q)]
      refine ⟨h1, fun h s hs => ?_⟩
      rcases List.mem_cons.mp hs with rfl | hs
      · omega
      · exact h2 h s hs
theorem lows_le (t : Int) : ∀ (l : List Int) (i : Nat), wt t (lows t l) ≤ wt t (l.take i) ∧ (wt t (lows t l) = wt t (l.take i) → (∀ s ∈ l.take i, s ≤ t) ∧ ∀ s ∈ l.drop i, t < s)
  | l, 0 => by
    obtain ⟨h1, h2⟩ := lows_neg t l
    have z : wt t (l.take 0) = 0 := by simp [wt]
    rw [z]
    exact ⟨h1, fun h => ⟨fun s hs => by simp at hs, fun s hs => h2 h s (by simpa using hs)⟩⟩
  | [], i + 1 => ⟨by simp [wt, lows], fun _ => ⟨fun s hs => by simp at hs, fun s hs => by simp at hs⟩⟩
  | x :: r, i + 1 => by
    obtain ⟨h1, h2⟩ := lows_le t r i
    rw [List.take_succ_cons, List.drop_succ_cons, wt_cons]
    unfold lows at *
    rw [List.filter_cons]
    by_cases q : x ≤ t
    · rw [if_pos (by simpa using q), wt_cons]
      refine ⟨by omega, fun h => ?_⟩
      obtain ⟨g1, g2⟩ := h2 (by omega)
      refine ⟨fun s hs => ?_, g2⟩
      rcases List.mem_cons.mp hs with rfl | hs
      · exact q
      · exact g1 s hs
    · rw [if_neg (by simpa using q)]
      exact ⟨by omega, fun h => absurd h (by omega)⟩
theorem lows_take (t : Int) : ∀ L : List Int, L.Pairwise (· ≤ ·) → L.take (lows t L).length = lows t L
  | [], _ => rfl
  | x :: r, h => by
    obtain ⟨h1, h2⟩ := List.pairwise_cons.mp h
    have ih := lows_take t r h2
    unfold lows at *
    rw [List.filter_cons]
    by_cases q : x ≤ t
    · rw [if_pos (by simpa using q), List.length_cons, List.take_succ_cons, ih]
    · rw [if_neg (by simpa using q)]
      have : r.filter (fun s => decide (s ≤ t)) = [] := List.filter_eq_nil_iff.mpr fun s hs => by
        have := h1 s hs
        simp
        omega
      rw [this]; rfl
theorem sorted_cut : ∀ A : List Int, (∀ t : Int, ∃ i, (∀ s ∈ A.take i, s ≤ t) ∧ ∀ s ∈ A.drop i, t < s) → A.Pairwise (· ≤ ·)
  | [], _ => List.Pairwise.nil
  | x :: r, h => by
    refine List.pairwise_cons.mpr ⟨fun y hy => ?_, sorted_cut r fun t => ?_⟩
    · refine Int.not_lt.mp fun lt => ?_
      obtain ⟨i, g1, g2⟩ := h y
      cases i with
      | zero => exact absurd (g2 y (by simp [hy])) (Int.lt_irrefl _)
      | succ i =>
        have := g1 x (by simp)
        omega
    · obtain ⟨i, g1, g2⟩ := h t
      cases i with
      | zero => exact ⟨0, fun s hs => by simp at hs, fun s hs => g2 s (by simp at hs; simp [hs])⟩
      | succ i =>
        rw [List.take_succ_cons] at g1
        rw [List.drop_succ_cons] at g2
        exact ⟨i, fun s hs => g1 s (List.mem_cons_of_mem _ hs), g2⟩
theorem both_sorted {L A B : List Int} (hL : L.Pairwise (· ≤ ·)) (hp : L.Perm (A ++ B)) (h : ∀ k, k ≤ L.length → ∃ i j, i + j = k ∧ i ≤ A.length ∧ j ≤ B.length ∧ (A.take i).sum + (B.take j).sum = (L.take k).sum) : A.Pairwise (· ≤ ·) ∧ B.Pairwise (· ≤ ·) := by
  have key : ∀ t : Int, ∃ i j, ((∀ s ∈ A.take i, s ≤ t) ∧ ∀ s ∈ A.drop i, t < s) ∧ ((∀ s ∈ B.take j, s ≤ t) ∧ ∀ s ∈ B.drop j, t < s) := fun t => by
    obtain ⟨i, j, e, hi, hj, q⟩ := h (lows t L).length (List.length_filter_le _ _)
    have e1 : wt t (lows t L) = wt t (A.take i) + wt t (B.take j) := by
      have w1 := wt_sum t (lows t L)
      have w2 := wt_sum t (A.take i)
      have w3 := wt_sum t (B.take j)
      rw [lows_take t L hL] at q
      rw [w1, w2, w3, ← q, List.length_take, List.length_take, Nat.min_eq_left hi, Nat.min_eq_left hj, ← e]
      have : (2 * t + 1) * ((i + j : Nat) : Int) = (2 * t + 1) * (i : Int) + (2 * t + 1) * (j : Int) := by rw [Int.natCast_add, Int.mul_add]
      rw [this]
      omega
    have e2 : wt t (lows t L) = wt t (lows t A) + wt t (lows t B) := by
      rw [← wt_app]
      unfold lows
      rw [← List.filter_append]
      exact wt_perm t (hp.filter _)
    obtain ⟨a1, a2⟩ := lows_le t A i
    obtain ⟨b1, b2⟩ := lows_le t B j
    exact ⟨i, j, a2 (by omega), b2 (by omega)⟩
  exact ⟨sorted_cut A fun t => by obtain ⟨i, j, g, _⟩ := key t; exact ⟨i, g⟩, sorted_cut B fun t => by obtain ⟨i, j, _, g⟩ := key t; exact ⟨j, g⟩⟩
theorem cvx_steps {a : List Int} : Cvx a ↔ (stepsI a).Pairwise (· ≤ ·) := by
  rw [List.pairwise_iff_getElem]
  constructor
  · intro h i j hi hj lt
    have l1 := stepsI_len a
    rw [← getD_get hi, ← getD_get hj, stepsI_at (by omega), stepsI_at (by omega)]
    have := h.step (u := i) (t := j - i) (by omega)
    rw [show i + (j - i) + 1 = j + 1 by omega, show i + (j - i) = j by omega] at this
    exact this
  · intro h k hk
    have l1 := stepsI_len a
    have h1 : k < (stepsI a).length := by omega
    have h2 : k + 1 < (stepsI a).length := by omega
    have := h k (k + 1) h1 h2 (Nat.lt_succ_self k)
    rw [← getD_get h1, ← getD_get h2, stepsI_at (by omega), stepsI_at (by omega), show k + 1 + 1 = k + 2 from rfl] at this
    omega
/-- the rows' steps, merged -/
def mgd (a b : List Int) : List Int := run (a.getD 0 0 + b.getD 0 0) (sortI (stepsI a ++ stepsI b))
theorem mgd_len {a b : List Int} (ha : 1 ≤ a.length) (hb : 1 ≤ b.length) : (mgd a b).length = a.length + b.length - 1 := by
  unfold mgd
  rw [run_len, sortI_len, List.length_append, stepsI_len, stepsI_len]
  omega
theorem mgd_le {a b : List Int} (ha : 1 ≤ a.length) (hb : 1 ≤ b.length) {k : Nat} (hk : k < a.length + b.length - 1) : (mgd a b).getD k 0 ≤ (lr a b).getD k 0 := by
  obtain ⟨i, j, hi, hj, e, q⟩ := lr_at ha hb hk
  rw [q, row_at hi, row_at hj]
  unfold mgd
  rw [run_at _ _ _ (by rw [sortI_len, List.length_append, stepsI_len, stepsI_len]; omega)]
  have := le_two (sortI_sorted (stepsI a ++ stepsI b)) (sortI_perm _) (i := i) (j := j) (by rw [stepsI_len]; omega) (by rw [stepsI_len]; omega)
  rw [e] at this
  omega
theorem mgd_eq {a b : List Int} (ha : 1 ≤ a.length) (hb : 1 ≤ b.length) : mgd a b = lr a b ↔ Cvx a ∧ Cvx b := by
  have lL : (sortI (stepsI a ++ stepsI b)).length = a.length + b.length - 2 := by rw [sortI_len, List.length_append, stepsI_len, stepsI_len]; omega
  rw [cvx_steps, cvx_steps]
  constructor
  · intro h
    refine both_sorted (sortI_sorted (stepsI a ++ stepsI b)) (sortI_perm _) fun k hk => ?_
    obtain ⟨i, j, hi, hj, e, q⟩ := lr_at ha hb (k := k) (by omega)
    refine ⟨i, j, e, by rw [stepsI_len]; omega, by rw [stepsI_len]; omega, ?_⟩
    rw [← h, row_at hi, row_at hj] at q
    unfold mgd at q
    rw [run_at _ _ _ hk] at q
    omega
  · rintro ⟨h1, h2⟩
    apply List.ext_getElem
    · rw [mgd_len ha hb, lr_len]
    · intro k g1 g2
      rw [← getD_get g1, ← getD_get g2]
      rw [mgd_len ha hb] at g1
      refine Int.le_antisymm (mgd_le ha hb g1) ?_
      obtain ⟨i, j, e, hi, hj, q⟩ := eq_two (sortI_sorted (stepsI a ++ stepsI b)) h1 h2 (sortI_perm _) (k := k) (by omega)
      rw [stepsI_len] at hi hj
      have := lr_le (a := a) (b := b) (i := i) (j := j) (by omega) (by omega)
      rw [e, row_at (a := a) (k := i) (by omega), row_at (a := b) (k := j) (by omega)] at this
      unfold mgd
      rw [run_at _ _ _ (by omega)]
      omega
theorem cvB_cvx {a : List Int} : cvB a = true ↔ Cvx a := by
  refine ⟨cvx_of, fun h => ?_⟩
  unfold cvB
  rw [Bool.not_eq_true', List.any_eq_false]
  intro y hy
  obtain ⟨h0, h1⟩ := rngL_mem.mp hy
  have := h y.toNat (by omega)
  rw [decide_eq_true_eq]
  omega
/-! ### never_fall -/
def nfB (l : List Int) : Bool := (List.range (l.length - 1)).all fun k => decide (l.getD k 0 ≤ l.getD (k + 1) 0)
theorem zip_nf : ∀ l : List Int, ((l.zip (l.drop 1)).all fun p => decide (p.1 ≤ p.2)) = nfB l
  | [] => rfl
  | [x] => rfl
  | x :: y :: r => by
    have ih := zip_nf (y :: r)
    show (decide (x ≤ y) && (((y :: r).zip r).all fun p => decide (p.1 ≤ p.2))) = _
    have e : ((y :: r).zip ((y :: r).drop 1)) = (y :: r).zip r := rfl
    rw [e] at ih
    rw [ih]
    unfold nfB
    show _ = (List.range (r.length + 1)).all _
    rw [List.range_succ_eq_map, List.all_cons, List.all_map]
    rfl
theorem nf_steps {a : List Int} : nfB (stepsI a) = cvB a := by
  rw [Bool.eq_iff_iff, cvB_cvx]
  unfold nfB
  rw [List.all_eq_true, stepsI_len]
  constructor
  · intro h k hk
    have := h k (List.mem_range.mpr (by omega))
    rw [decide_eq_true_eq, stepsI_at (by omega), stepsI_at (by omega), show k + 1 + 1 = k + 2 from rfl] at this
    omega
  · intro h k hk
    rw [List.mem_range] at hk
    have := h k (by omega)
    rw [decide_eq_true_eq, stepsI_at (by omega), stepsI_at (by omega), show k + 1 + 1 = k + 2 from rfl]
    omega
def nfF : Fn := ⟨3, 1, [(.lk [0] (.ret (.bc .all [(.lc (.cmp .le (.v 1) (.v 2)) (.tu [(.nm 1), (.nm 2)]) .zp [(.v 0), (.sl (.v 0) [(.k (.int 1))] [])] [] [1, 2])])))]⟩
section
variable {P : List Fn} {gl : List D} {sb : List (Nat × Nat)} {fuel : Nat} {j : Nat} {l : List Int}
theorem c_nfL (hj : At P j nfF) (n : Nat) (hl : l.length ≤ 1000) (s : Sg) : evC P gl sb fuel (n + 1) j [(.sh, .lst (l.map .int))] s = .ok (.sh, .bl (nfB l)) s := by
  rw [open_ hj _ _ rfl]
  let c : Cc := ⟨gl, sb, evC P gl sb fuel n, fuel⟩
  let env : Env := [some (false, .lst (l.map .int)), none, none]
  have sl : evE c (.sl (.v 0) [(.k (.int 1))] []) env s = .ok (.fr, .lst (cutD (l.map .int) (some 1) none)) s := sl_loL (k := .sh) (k' := .sh) rfl rfl
  have ct := cut_tl (l.map D.int) 1
  rw [show ((1 : Nat) : Int) = 1 from rfl, ← List.map_drop] at ct
  rw [ct] at sl
  have it : itV .zp [(.sh, .lst (l.map .int)), (.fr, .lst ((l.drop 1).map .int))] = some ((l.zip (l.drop 1)).map fun p => .tup [.int p.1, .int p.2]) := by
    show some (((l.map D.int).zip ((l.drop 1).map D.int)).map fun p => D.tup [p.1, p.2]) = _
    rw [List.zip_map, List.map_map]; rfl
  have e1 := lc_pg (c := c) (e := (.cmp .le (.v 1) (.v 2))) (x := 1) (y := 2) (env := env) (s := s) (own := [1, 2]) (k := .zp) (ies := [(.v 0), (.sl (.v 0) [(.k (.int 1))] [])]) (l := l.zip (l.drop 1)) (fun p => .int p.1) (fun p => .int p.2) (fun p => .bl (decide (p.1 ≤ p.2))) (evEs2 (show evE c (.v 0) env s = .ok (.sh, .lst (l.map .int)) s from rfl) sl) it (by rw [List.length_zip]; exact Nat.le_trans (Nat.min_le_left _ _) hl) (fun p hp => rfl)
  have e2 := bc1 e1 (all_map (l.zip (l.drop 1)) _)
  rw [zip_nf] at e2
  show backF _ (evSs c [.lk [0] (.ret _)] env s) = _
  have u : Ev.unown env [0] = env := rfl
  rw [evSs, evS, u, ret_sh e2]; rfl
end
end Ev
set_option Elab.async false
set_option linter.all false
set_option maxRecDepth 100000
set_option maxHeartbeats 1000000
namespace Ev
open PySem PySem.Spec PyProof.Rows L2
section
variable {P : List Fn} {gl : List D} {sb : List (Nat × Nat)} {fuel : Nat} {j jl t : Nat} {a b : List Int} {B : D}
/-- _law_least, of rows or lists, lent or not -/
theorem c_lleastK {A : D} (hj : At P j lleastF) (n : Nat) (ha : 1 ≤ a.length) (hb : 1 ≤ b.length) (hab : a.length + b.length ≤ 500) (hA : Sq a A) (hB : Sq b B) {ka kb : Kd} (hk : ka = .sh ∨ ka = .lo) (hk2 : kb = .sh ∨ kb = .lo) (s : Sg) : evC P gl sb fuel (n + 1) j [(ka, A), (kb, B)] s = .ok (.fr, .lst ((lr a b).map .int)) s := by
  have w := c_lleastA (P := P) (gl := gl) (sb := sb) (fuel := fuel) hj n ha hb hab hA hB hk2 s
  have z := lfs_int (lr a b)
  rcases hk with rfl | rfl
  · exact w
  · rw [open_ hj _ _ rfl] at w ⊢
    have e0 : envOf lleastF [(.lo, A), (kb, B)] = envOf lleastF [(.sh, A), (kb, B)] := by rcases hk2 with rfl | rfl <;> rfl
    rw [e0]
    generalize evSs _ _ _ _ = r at w ⊢
    have e1 : ([(Kd.lo, A), (kb, B)] : List VD).any isLo = true := rfl
    rw [e1]
    rcases hk2 with rfl | rfl
    · have e2 : ([(Kd.sh, A), (Kd.sh, B)] : List VD).any isLo = false := rfl
      rw [e2] at w
      cases r with
      | rt x s1 =>
        have w' : Out.ok x s1 = Out.ok (Kd.fr, .lst ((lr a b).map .int)) s := w
        injection w' with h1 h2
        subst h1; subst h2
        show lift (if lfs ((lr a b).map D.int) = true then some (Kd.fr, D.lst ((lr a b).map D.int)) else none) s1 = _
        rw [if_pos z]; rfl
      | nx e s1 => exact absurd w (by intro h; injection h with h1 h2; injection h1 with h3 h4; cases h3)
      | ex x e s1 => cases w
      | stk => cases w
      | bk e s1 => cases w
      | ct e s1 => cases w
    · exact w
/-- the steps of a row, by its places -/
theorem st_lc {c : Cc} {env : Env} {s : Sg} {i x : Nat} (hl : a.length ≤ 500) (h0 : 1 ≤ a.length) (hix : i ≠ x) (hx : x < env.length) (hi : env[i]? = some (some (false, .tup (a.map .int)))) : evE c (.lc (.op .sub (.ix (.v i) (.op .add (.v x) (.k (.int 1)))) (.ix (.v i) (.v x))) (.nm x) .rg1 [(.op .sub (.bc .len [(.v i)]) (.k (.int 1)))] [] [x]) env s = .ok (.fr, .lst ((stepsI a).map .int)) s := by
  have f0 : evE c (.v i) env s = .ok (.sh, .tup (a.map .int)) s := by rw [evE, hi]; rfl
  have ln : evE c (.op .sub (.bc .len [(.v i)]) (.k (.int 1))) env s = .ok (.sh, .int ((a.length - 1 : Nat) : Int)) s := by
    rw [show ((a.length - 1 : Nat) : Int) = (a.length : Int) - 1 by omega]
    exact op_ok (k := .sh) (k' := .sh) (s1 := s) (y := .int 1) (bc1 f0 (sq_len (.t (b := a)))) rfl rfl
  have e1 := lc_rg (c := c) (e := (.op .sub (.ix (.v i) (.op .add (.v x) (.k (.int 1)))) (.ix (.v i) (.v x)))) (r := (.op .sub (.bc .len [(.v i)]) (.k (.int 1)))) (x := x) (env := env) (s := s) (own := [x]) (m := a.length - 1) (fun k => .int (a.getD (k + 1) 0 - a.getD k 0)) (by omega) ln (fun k hk => by
    let env2 := (wipeE env [x]).set x (some (false, .int (k : Int)))
    have f1 : evE c (.v i) env2 s = .ok (.sh, .tup (a.map .int)) s := by
      have : env2[i]? = some (some (false, .tup (a.map .int))) := by
        show ((env.set x none).set x _)[i]? = _
        rw [List.getElem?_set_ne (Ne.symm hix), List.getElem?_set_ne (Ne.symm hix), hi]
      rw [evE, this]; rfl
    have f2 : evE c (.v x) env2 s = .ok (.sh, .int (k : Int)) s := by
      have : env2[x]? = some (some (false, .int (k : Int))) := List.getElem?_set_self (by show x < (env.set x none).length; rw [List.length_set]; exact hx)
      rw [evE, this]; rfl
    exact op_ok (k := .sh) (k' := .sh) (s1 := s) (sq_ix (.t (b := a)) (j := k + 1) (by omega) f1 (k' := .sh) (op_ok (k' := .sh) (s1 := s) (y := .int 1) f2 rfl rfl)) (sq_ix (.t (b := a)) (j := k) (by omega) f1 f2) rfl)
  have q : (List.range (a.length - 1)).map (fun k => D.int (a.getD (k + 1) 0 - a.getD k 0)) = (stepsI a).map .int := by
    apply List.ext_getElem
    · rw [List.length_map, List.length_map, List.length_range, stepsI_len]
    · intro k h1 h2
      rw [List.length_map, List.length_range] at h1
      rw [List.getElem_map, List.getElem_map, List.getElem_range, ← getD_get (by rw [stepsI_len]; omega), stepsI_at (by omega)]
  rw [q] at e1
  exact e1
theorem eq_lists (l m : List Int) : cmD .eq (.lst (l.map .int)) (.lst (m.map .int)) = some (decide (l = m)) := by
  have h1 : plainD 60 (.lst (l.map .int)) = true := pl_ints 59 l
  have h2 : plainD 60 (.lst (m.map .int)) = true := pl_ints 59 m
  show (if plainD 60 (.lst (l.map .int)) && plainD 60 (.lst (m.map .int)) then some (eqD (.lst (l.map .int)) (.lst (m.map .int))) else none) = _
  rw [h1, h2]
  show some (eqDs (l.map D.int) (m.map D.int)) = _
  rw [eq_intsB]
/-! ### _law_bowl -/
def bowlF (t : Nat) : Fn := ⟨7, 2, [(.asg (.nm 2) (.bc .sorted [(.lc (.op .sub (.ix (.v 1) (.op .add (.v 3) (.k (.int 1)))) (.ix (.v 1) (.v 3))) (.nm 3) .rg1 [(.op .sub (.bc .len [(.v 1)]) (.k (.int 1)))] [] [3])])),
  (.ifs (.and_ (.cmp .gt (.bc .len [(.v 2)]) (.k (.int 1))) (.cmp .eq (.call t [(.v 0), (.k (.int 4))]) (.k (.int 0)))) [(.asg (.nm 3) (.call t [(.v 0), (.op .sub (.bc .len [(.v 2)]) (.k (.int 1)))])), (.psub [(2, [(.v 3)]), (2, [(.op .add (.v 3) (.k (.int 1)))])] [(.ix (.v 2) (.op .add (.v 3) (.k (.int 1)))), (.ix (.v 2) (.v 3))])] []),
  (.asg (.nm 4) (.lst [(.ix (.v 1) (.k (.int 0)))])),
  (.lk [2] (.for_ (.nm 5) .seq [(.v 2)] [(.app 4 (.op .add (.ix (.v 4) (.neg (.k (.int 1)))) (.v 5)))])),
  (.ret (.ite (.bc .all [(.lc (.chn .le .le (.neg (.k (.int 1000))) (.v 6) (.k (.int 1000))) (.nm 6) .seq [(.v 4)] [] [6])]) (.bc .tuple [(.v 4)]) (.v 1)))]⟩
theorem bowl_swap {c : Cc} {s : Sg} (T : Tk c t) (hs : Vd s) {A : D} {zs : List Int} (hz : zs.length ≤ 500) : ∃ (zs' : List Int) (x3 : Option (Bool × D)) (s' : Sg), evS c (.ifs (.and_ (.cmp .gt (.bc .len [(.v 2)]) (.k (.int 1))) (.cmp .eq (.call t [(.v 0), (.k (.int 4))]) (.k (.int 0)))) [(.asg (.nm 3) (.call t [(.v 0), (.op .sub (.bc .len [(.v 2)]) (.k (.int 1)))])), (.psub [(2, [(.v 3)]), (2, [(.op .add (.v 3) (.k (.int 1)))])] [(.ix (.v 2) (.op .add (.v 3) (.k (.int 1)))), (.ix (.v 2) (.v 3))])] []) [some (false, .drw), some (false, A), some (true, .lst (zs.map .int)), none, none, none, none] s = .nx [some (false, .drw), some (false, A), some (true, .lst (zs'.map .int)), x3, none, none, none] s' ∧ Vd s' ∧ zs'.length = zs.length := by
  let env : Env := [some (false, .drw), some (false, A), some (true, .lst (zs.map .int)), none, none, none, none]
  have ln : ∀ s, evE c (.bc .len [(.v 2)]) env s = .ok (.sh, .int (zs.length : Int)) s := fun s => bc1 (k := .lo) rfl (sq_len (.l (b := zs)))
  have t1 : evE c (.cmp .gt (.bc .len [(.v 2)]) (.k (.int 1))) env s = .ok (.sh, .bl (decide ((1 : Int) < (zs.length : Int)))) s := cmp_ok (k' := .sh) (y := .int 1) (ln s) rfl rfl
  by_cases q : 1 < zs.length
  · rw [decide_eq_true (by omega)] at t1
    obtain ⟨x, s1, e1, v1, x0, x1⟩ := T.at_ hs (m := 4) (by omega) (by omega)
    have t2 : evE c (.cmp .eq (.call t [(.v 0), (.k (.int 4))]) (.k (.int 0))) env s = .ok (.sh, .bl (decide (x = 0))) s1 := cmp_ok (k' := .sh) (y := .int 0) (call2 (s1 := s) (s2 := s) rfl rfl e1) rfl (cm_eq _ _)
    by_cases q2 : x = 0
    · rw [decide_eq_true q2] at t2
      have t3 : evE c (.and_ (.cmp .gt (.bc .len [(.v 2)]) (.k (.int 1))) (.cmp .eq (.call t [(.v 0), (.k (.int 4))]) (.k (.int 0)))) env s = .ok (.sh, .bl true) s1 := by rw [and_t t1]; exact t2
      obtain ⟨y, s2, e2, v2, y0, y1⟩ := T.at_ v1 (m := (zs.length : Int) - 1) (by omega) (by omega)
      obtain ⟨k, rfl⟩ : ∃ k : Nat, y = (k : Int) := ⟨y.toNat, by omega⟩
      have l1 : evE c (.op .sub (.bc .len [(.v 2)]) (.k (.int 1))) env s1 = .ok (.sh, .int ((zs.length : Int) - 1)) s1 := op_ok (k' := .sh) (y := .int 1) (ln s1) rfl rfl
      have g1 : evS c (.asg (.nm 3) (.call t [(.v 0), (.op .sub (.bc .len [(.v 2)]) (.k (.int 1)))])) env s1 = .nx [some (false, .drw), some (false, A), some (true, .lst (zs.map .int)), some (false, .int (k : Int)), none, none, none] s2 := asg_sh (call2 (s1 := s1) (s2 := s1) rfl l1 e2)
      let env2 : Env := [some (false, .drw), some (false, A), some (true, .lst (zs.map .int)), some (false, .int (k : Int)), none, none, none]
      have p1 : evE c (.ix (.v 2) (.op .add (.v 3) (.k (.int 1)))) env2 s2 = .ok (.sh, .int (zs.getD (k + 1) 0)) s2 := sq_ix (.l (b := zs)) (j := k + 1) (k := .lo) (k' := .sh) (by omega) rfl rfl
      have p2 : evE c (.ix (.v 2) (.v 3)) env2 s2 = .ok (.sh, .int (zs.getD k 0)) s2 := sq_ix (.l (b := zs)) (j := k) (k := .lo) (k' := .sh) (by omega) rfl rfl
      have p3 := tup2 p1 p2
      have i0 : ixN zs.length (k : Int) = some k := by unfold ixN; rw [if_pos (by omega), if_pos (by omega)]; simp
      have i1 : ixN zs.length ((k : Int) + 1) = some (k + 1) := by
        have : (k : Int) + 1 = ((k + 1 : Nat) : Int) := by omega
        rw [this]; unfold ixN; rw [if_pos (by omega), if_pos (by omega)]; simp
      let zs' := (zs.set k (zs.getD (k + 1) 0)).set (k + 1) (zs.getD k 0)
      have g2 : evS c (.psub [(2, [(.v 3)]), (2, [(.op .add (.v 3) (.k (.int 1)))])] [(.ix (.v 2) (.op .add (.v 3) (.k (.int 1)))), (.ix (.v 2) (.v 3))]) env2 s2 = .nx [some (false, .drw), some (false, A), some (true, .lst (zs'.map .int)), some (false, .int (k : Int)), none, none, none] s2 := by
        rw [evS, p3]
        simp [evSs, evS, evE, evEs, evTs, evT, Out.bind, Out.sr, lift, SR.seq, ixV, truD, cmD, opD, plainD, eqD, setS, setV, keep, bcD, dat, ixD, optS, asgV, asgVs, asgD, asgDs, backF, Ev.lent, Ev.leaves, testsD, keeps, flatD, inD, itV, itW, isLo, isSeq, itD, owned, Ev.unown, mixed, isFr, Ev.settle, oneI, slD, isiD, augV, flatAt, noEx, tgsV, env2, i0, i1, zs', List.map_set]
      refine ⟨zs', some (false, .int (k : Int)), s2, ?_, v2, by simp [zs']⟩
      rw [ifs_t t3, seq_one g1, seq_one g2]; rfl
    · rw [decide_eq_false q2] at t2
      have t3 : evE c (.and_ (.cmp .gt (.bc .len [(.v 2)]) (.k (.int 1))) (.cmp .eq (.call t [(.v 0), (.k (.int 4))]) (.k (.int 0)))) env s = .ok (.sh, .bl false) s1 := by rw [and_t t1]; exact t2
      exact ⟨zs, none, s1, ifs0 t3, v1, rfl⟩
  · rw [decide_eq_false (by omega)] at t1
    exact ⟨zs, none, s, ifs0 (and_f t1), hs, rfl⟩
theorem c_bowl (ht : P[t]? = some takeF) (hj : At P j (bowlF t)) (n : Nat) {s : Sg} (hs : Vd s) (ha : Row a) : ∃ (z : List Int) (s' : Sg), evC P gl sb fuel (n + 2) j [(.sh, .drw), (.sh, .tup (a.map .int))] s = .ok (.sh, .tup (z.map .int)) s' ∧ Vd s' ∧ Row z ∧ z.length = a.length := by
  have la := ha.1
  have la2 := ha.2.1
  let c : Cc := ⟨gl, sb, evC P gl sb fuel (n + 1), fuel⟩
  let env : Env := [some (false, .drw), some (false, .tup (a.map .int)), none, none, none, none, none]
  have g0 : evS c (.asg (.nm 2) (.bc .sorted [(.lc (.op .sub (.ix (.v 1) (.op .add (.v 3) (.k (.int 1)))) (.ix (.v 1) (.v 3))) (.nm 3) .rg1 [(.op .sub (.bc .len [(.v 1)]) (.k (.int 1)))] [] [3])])) env s = .nx [some (false, .drw), some (false, .tup (a.map .int)), some (true, .lst ((sortI (stepsI a)).map .int)), none, none, none, none] s := asg_fr (bc1 (st_lc (by omega) la (by decide) (by show 3 < 7; decide) rfl) (sorted_ints (by rw [stepsI_len]; omega)))
  obtain ⟨zs, x3, s1, g1, v1, lz⟩ := bowl_swap (c := c) (t := t) (A := .tup (a.map .int)) (zs := sortI (stepsI a)) (fun s hs m h0 h1 => take_call (P := P) (i := t) ht hs h0 h1) hs (by rw [sortI_len, stepsI_len]; omega)
  rw [sortI_len, stepsI_len] at lz
  let e2 : Env := [some (false, .drw), some (false, .tup (a.map .int)), some (true, .lst (zs.map .int)), x3, none, none, none]
  let e3 : Env := [some (false, .drw), some (false, .tup (a.map .int)), some (true, .lst (zs.map .int)), x3, some (true, .lst [.int (a.getD 0 0)]), none, none]
  have p1 : evE c (.ix (.v 1) (.k (.int 0))) e2 s1 = .ok (.sh, .int (a.getD 0 0)) s1 := sq_ix (.t (b := a)) (j := 0) (k := .sh) (k' := .sh) (by omega) rfl rfl
  have g2 : evS c (.asg (.nm 4) (.lst [(.ix (.v 1) (.k (.int 0)))])) e2 s1 = .nx e3 s1 := asg_fr (by rw [evE, evEs, bind_ok p1]; rfl)
  let e4 : Env := [some (false, .drw), some (false, .tup (a.map .int)), some (false, .lst (zs.map .int)), x3, some (true, .lst [.int (a.getD 0 0)]), none, none]
  obtain ⟨y, g3⟩ := run_loop (c := c) (s := s1) (env0 := e4) (t := 5) (i := 4) (k := .seq) (ies := [(.v 2)]) (L := zs) (x := a.getD 0 0) (by omega) rfl (by decide) (by show 5 < 7; decide) (evEs1 (x := (.sh, .lst (zs.map .int))) rfl) rfl
  have g4 : evS c (.lk [2] (.for_ (.nm 5) .seq [(.v 2)] [(.app 4 (.op .add (.ix (.v 4) (.neg (.k (.int 1)))) (.v 5)))])) e3 s1 = .nx [some (false, .drw), some (false, .tup (a.map .int)), some (false, .lst (zs.map .int)), x3, some (true, .lst ((run (a.getD 0 0) zs).map .int)), y, none] s1 := by
    rw [evS]; exact g3
  let R := run (a.getD 0 0) zs
  have lR : R.length = a.length := by show (run _ _).length = _; rw [run_len]; omega
  let e5 : Env := [some (false, .drw), some (false, .tup (a.map .int)), some (false, .lst (zs.map .int)), x3, some (true, .lst (R.map .int)), y, none]
  have x1 := lc_seq (c := c) (e := (.chn .le .le (.neg (.k (.int 1000))) (.v 6) (.k (.int 1000)))) (a := .v 4) (x := 6) (env := e5) (s := s1) (own := [6]) (k := .lo) (d0 := .lst (R.map .int)) (l := R.map D.int) (fun d => match d with | .int z => .bl (decide (-1000 ≤ z) && decide (z ≤ 1000)) | _ => .non) (.inr rfl) (by rw [List.length_map]; omega) rfl (fun d hd => by
    obtain ⟨z, hz, rfl⟩ := List.mem_map.mp hd
    exact chn_ok (k := .sh) (k' := .sh) (k'' := .sh) (x := .int (-1000)) (y := .int z) (z := .int 1000) rfl rfl rfl rfl rfl)
  have q : (R.map D.int).map (fun d => match d with | .int z => D.bl (decide (-1000 ≤ z) && decide (z ≤ 1000)) | _ => .non) = R.map fun z => .bl (decide (-1000 ≤ z) && decide (z ≤ 1000)) := by rw [List.map_map]; rfl
  rw [q] at x1
  have x2 : evE c (.bc .all [(.lc (.chn .le .le (.neg (.k (.int 1000))) (.v 6) (.k (.int 1000))) (.nm 6) .seq [(.v 4)] [] [6])]) e5 s1 = .ok (.sh, .bl (fitB R)) s1 := bc1 x1 (all_map R _)
  rw [open_ hj _ _ rfl]
  show ∃ z s', backF false (evSs c [_, _, _, _, .ret (.ite _ _ _)] env s) = _ ∧ _
  rw [seq_one g0, seq_one g1, seq_one g2, seq_one g4]
  show ∃ z s', backF false (evSs c [.ret (.ite _ _ _)] e5 s1) = _ ∧ _
  cases hf : fitB R with
  | true =>
    rw [hf] at x2
    have x3 := ite_t (b := .bc .tuple [(.v 4)]) (d := .v 1) x2
    refine ⟨R, s1, ?_, v1, fitB_row (by omega) (by omega) hf, lR⟩
    rw [evSs, evS, x3]; rfl
  | false =>
    rw [hf] at x2
    have x3 := ite_f (b := .bc .tuple [(.v 4)]) (d := .v 1) x2
    refine ⟨a, s1, ?_, v1, ha, rfl⟩
    rw [evSs, evS, x3]; rfl
end
end Ev
set_option Elab.async false
set_option linter.all false
set_option maxRecDepth 100000
set_option maxHeartbeats 1000000
namespace Ev
open PySem PySem.Spec PyProof.Rows L2
/-! ### rows, for every value -/
def fitD : D → Bool
  | .int z => decide (-1000 ≤ z) && decide (z ≤ 1000)
  | _ => false
def rowD : D → Bool
  | .tup l => (decide ((1 : Int) ≤ (l.length : Int)) && decide ((l.length : Int) ≤ 12)) && l.all fitD
  | _ => false
/-- values that may stand for a row -/
def okR : D → Bool
  | .tup l => l.all okD
  | d => okD d
theorem okR_D {d : D} (h : okR d = true) : okD d = true := by cases d <;> first | rfl | exact h
theorem fit_ints : ∀ l : List D, l.all fitD = true → ∃ zs : List Int, l = zs.map .int ∧ ∀ z ∈ zs, -1000 ≤ z ∧ z ≤ 1000
  | [], _ => ⟨[], rfl, fun z h => by cases h⟩
  | d :: r, h => by
    rw [List.all_cons, Bool.and_eq_true] at h
    obtain ⟨zs, e, q⟩ := fit_ints r h.2
    cases d <;> first | (cases h.1; done) | skip
    rename_i z
    have h1 : (decide (-1000 ≤ z) && decide (z ≤ 1000)) = true := h.1
    rw [Bool.and_eq_true, decide_eq_true_eq, decide_eq_true_eq] at h1
    refine ⟨z :: zs, by rw [e]; rfl, fun y hy => ?_⟩
    rcases List.mem_cons.mp hy with rfl | hy
    · exact h1
    · exact q y hy
theorem rowD_row {d : D} (h : rowD d = true) : ∃ zs : List Int, d = .tup (zs.map .int) ∧ Row zs := by
  cases d <;> first | (cases h; done) | skip
  rename_i l
  have h : ((decide ((1 : Int) ≤ (l.length : Int)) && decide ((l.length : Int) ≤ 12)) && l.all fitD) = true := h
  rw [Bool.and_eq_true, Bool.and_eq_true, decide_eq_true_eq, decide_eq_true_eq] at h
  obtain ⟨⟨h1, h2⟩, h3⟩ := h
  obtain ⟨zs, rfl, q⟩ := fit_ints l h3
  rw [List.length_map] at h1 h2
  exact ⟨zs, rfl, by omega, by omega, q⟩
theorem rowD_ints {zs : List Int} (h1 : 1 ≤ zs.length) (h2 : zs.length ≤ 12) : rowD (.tup (zs.map .int)) = fitB zs := by
  show ((decide ((1 : Int) ≤ ((zs.map D.int).length : Int)) && decide (((zs.map D.int).length : Int) ≤ 12)) && (zs.map D.int).all fitD) = _
  rw [List.length_map, decide_eq_true (by omega), decide_eq_true (by omega), List.all_map]
  rfl
theorem row_rowD {zs : List Int} (h : Row zs) : rowD (.tup (zs.map .int)) = true := by rw [rowD_ints h.1 h.2.1]; exact fitB_of h
section
variable {P : List Fn} {gl : List D} {sb : List (Nat × Nat)} {fuel : Nat} {w a b r c x j : Nat} {s : Sg} {d : D}
theorem c_isrowG (hw : At P w wholeF) (hr : At P r (rowF w a b)) (ha : gl[a]? = some (.int 12)) (hb : gl[b]? = some (.int 1000)) (n : Nat) (hd : okR d = true) (s : Sg) : evC P gl sb fuel (n + 2) r [(.sh, d)] s = .ok (.sh, .bl (rowD d)) s := by
  rw [open_ hr _ _ rfl]
  cases d with
  | tup l =>
    let c : Cc := ⟨gl, sb, evC P gl sb fuel (n + 1), fuel⟩
    let env : Env := [some (false, .tup l), none]
    have ga : evE c (.g a) env s = .ok (.sh, .int 12) s := by rw [evE, ha]; rfl
    have t1 : evE c (.isi .tuple (.v 0)) env s = .ok (.sh, .bl true) s := rfl
    have t2 := chn_ok (c := c) (env := env) (s := s) (o := .le) (o' := .le) (a := .k (.int 1)) (b := .bc .len [(.v 0)]) (e := .g a) (k := .sh) (k' := .sh) (x := .int 1) (y := .int (l.length : Int)) rfl rfl ga rfl rfl
    have t3 := or2 (not_ok t1) (not_ok t2)
    show backF _ (evSs c [.ifs (.or_ (.not_ (.isi .tuple (.v 0))) (.not_ (.chn .le .le (.k (.int 1)) (.bc .len [(.v 0)]) (.g a)))) [(.ret (.k (.bl false)))] [], .ret _] env s) = _
    cases hq : (decide ((1 : Int) ≤ (l.length : Int)) && decide ((l.length : Int) ≤ 12)) with
    | false =>
      rw [hq] at t3
      have rw' : rowD (.tup l) = false := by show ((decide ((1 : Int) ≤ (l.length : Int)) && decide ((l.length : Int) ≤ 12)) && l.all fitD) = false; rw [hq]; rfl
      rw [evSs, ifs_t t3, rw']; rfl
    | true =>
      rw [hq] at t3
      have hl : l.length ≤ 12 := by
        rw [Bool.and_eq_true, decide_eq_true_eq, decide_eq_true_eq] at hq
        omega
      have rw' : rowD (.tup l) = l.all fitD := by show ((decide ((1 : Int) ≤ (l.length : Int)) && decide ((l.length : Int) ≤ 12)) && l.all fitD) = _; rw [hq]; rfl
      have e2 := lc_seq (c := c) (e := (.and_ (.call w [(.v 1)]) (.chn .le .le (.neg (.g b)) (.v 1) (.g b)))) (a := .v 0) (x := 1) (env := env) (s := s) (own := [1]) (k := .sh) (d0 := .tup l) (l := l) (fun d => .bl (fitD d)) (.inl rfl) (by omega) rfl (fun d hm => by
        have ho : okD d = true := List.all_eq_true.mp hd d hm
        let env2 := (wipeE env [1]).set 1 (some (false, d))
        have f1 : evE c (.v 1) env2 s = .ok (.sh, d) s := rfl
        have w0 : evE c (.call w [(.v 1)]) env2 s = .ok (.sh, .bl (isW d)) s := call1 f1 (c_whole hw n ho s)
        have gb : evE c (.g b) env2 s = .ok (.sh, .int 1000) s := by rw [evE, hb]; rfl
        cases d with
        | int z =>
          have w1 : evE c (.call w [(.v 1)]) env2 s = .ok (.sh, .bl true) s := w0
          rw [and_t w1]
          exact chn_ok (k := .sh) (k' := .sh) (k'' := .sh) (x := .int (-1000)) (y := .int z) (z := .int 1000) (neg_ok gb) f1 gb rfl rfl
        | _ => exact and_f w0)
      rw [seq_one (ifs0 t3), evSs, ret_sh (bc1 e2 (all_map l fitD)), rw']; rfl
  | _ => first | (cases hd; done) | rfl
theorem c_checkrowG (hw : At P w wholeF) (hr : At P r (rowF w a b)) (hc : At P c (crowF r x)) (ha : gl[a]? = some (.int 12)) (hb : gl[b]? = some (.int 1000)) (n : Nat) (hd : okR d = true) (s : Sg) : evC P gl sb fuel (n + 3) c [(.sh, d)] s = if rowD d then .ok (.sh, .non) s else .ex ⟨x, none⟩ s := by
  rw [open_ hc _ _ rfl]
  let cc : Cc := ⟨gl, sb, evC P gl sb fuel (n + 2), fuel⟩
  have e1 := not_ok (call1 (c := cc) (env := [some (false, d)]) (a := .v 0) (i := r) (d := d) (s1 := s) (s := s) rfl (c_isrowG (sb := sb) (fuel := fuel) hw hr ha hb n hd s))
  show backF _ (evSs cc [.ifs (.not_ (.call r [(.v 0)])) [(.rse x [])] []] [some (false, d)] s) = _
  cases hq : rowD d with
  | true => rw [hq] at e1; rw [seq_one (ifs0 e1)]; rfl
  | false => rw [hq] at e1; rw [evSs, ifs_t e1]; rfl
/-- a law's own is_row -/
def lisrowF : Fn := ⟨2, 1, [(.ifs (.or_ (.not_ (.isi .tuple (.v 0))) (.not_ (.chn .le .le (.k (.int 1)) (.bc .len [(.v 0)]) (.k (.int 12))))) [(.ret (.k (.bl false)))] []),
  (.ret (.bc .all [(.lc (.and_ (.isi .int (.v 1)) (.and_ (.not_ (.isi .bool (.v 1))) (.chn .le .le (.neg (.k (.int 1000))) (.v 1) (.k (.int 1000))))) (.nm 1) .seq [(.v 0)] [] [1])]))]⟩
theorem c_lisrow (hj : At P j lisrowF) (n : Nat) (hd : okR d = true) (s : Sg) : evC P gl sb fuel (n + 1) j [(.sh, d)] s = .ok (.sh, .bl (rowD d)) s := by
  rw [open_ hj _ _ rfl]
  cases d with
  | tup l =>
    let c : Cc := ⟨gl, sb, evC P gl sb fuel n, fuel⟩
    let env : Env := [some (false, .tup l), none]
    have t1 : evE c (.isi .tuple (.v 0)) env s = .ok (.sh, .bl true) s := rfl
    have t2 := chn_ok (c := c) (env := env) (s := s) (o := .le) (o' := .le) (a := .k (.int 1)) (b := .bc .len [(.v 0)]) (e := .k (.int 12)) (k := .sh) (k' := .sh) (k'' := .sh) (x := .int 1) (y := .int (l.length : Int)) (z := .int 12) rfl rfl rfl rfl rfl
    have t3 := or2 (not_ok t1) (not_ok t2)
    show backF _ (evSs c [.ifs (.or_ (.not_ (.isi .tuple (.v 0))) (.not_ (.chn .le .le (.k (.int 1)) (.bc .len [(.v 0)]) (.k (.int 12))))) [(.ret (.k (.bl false)))] [], .ret _] env s) = _
    cases hq : (decide ((1 : Int) ≤ (l.length : Int)) && decide ((l.length : Int) ≤ 12)) with
    | false =>
      rw [hq] at t3
      have rw' : rowD (.tup l) = false := by show ((decide ((1 : Int) ≤ (l.length : Int)) && decide ((l.length : Int) ≤ 12)) && l.all fitD) = false; rw [hq]; rfl
      rw [evSs, ifs_t t3, rw']; rfl
    | true =>
      rw [hq] at t3
      have hl : l.length ≤ 12 := by
        rw [Bool.and_eq_true, decide_eq_true_eq, decide_eq_true_eq] at hq
        omega
      have rw' : rowD (.tup l) = l.all fitD := by show ((decide ((1 : Int) ≤ (l.length : Int)) && decide ((l.length : Int) ≤ 12)) && l.all fitD) = _; rw [hq]; rfl
      have e2 := lc_seq (c := c) (e := (.and_ (.isi .int (.v 1)) (.and_ (.not_ (.isi .bool (.v 1))) (.chn .le .le (.neg (.k (.int 1000))) (.v 1) (.k (.int 1000)))))) (a := .v 0) (x := 1) (env := env) (s := s) (own := [1]) (k := .sh) (d0 := .tup l) (l := l) (fun d => .bl (fitD d)) (.inl rfl) (by omega) rfl (fun d hm => by
        have ho : okD d = true := List.all_eq_true.mp hd d hm
        let env2 := (wipeE env [1]).set 1 (some (false, d))
        have f1 : evE c (.v 1) env2 s = .ok (.sh, d) s := rfl
        cases d with
        | int z =>
          rw [and_t (show evE c (.isi .int (.v 1)) env2 s = .ok (.sh, .bl true) s from rfl), and_t (show evE c (.not_ (.isi .bool (.v 1))) env2 s = .ok (.sh, .bl true) s from rfl)]
          exact chn_ok (k := .sh) (k' := .sh) (k'' := .sh) (x := .int (-1000)) (y := .int z) (z := .int 1000) rfl f1 rfl rfl rfl
        | _ => first | (cases ho; done) | rfl)
      rw [seq_one (ifs0 t3), evSs, ret_sh (bc1 e2 (all_map l fitD)), rw']; rfl
  | _ => first | (cases hd; done) | rfl
end
/-! ### a def out of a display -/
section
variable {c : Cc} {env : Env} {s s1 s2 s3 : Sg} {fs : List Nat} {i : E} {r : Out VD} {k : Int} {f : Nat}
theorem sel1 {a : E} {d : D} (hi : evE c i env s = .ok (.sh, .int k) s1) (hf : L2.atI fs k = some f) (ha : evE c a env s1 = .ok (.sh, d) s2) (hc : c.call f [(.sh, d)] s2 = r) : evE c (.sel fs i [a]) env s = r := by
  rw [evE, bind_ok hi]
  show (match L2.atI fs k with
    | some f => (evEs c [a] env s1).bind fun xs s2 => if mixed xs then .stk else c.call f (xs.map settle) s2
    | none => .stk) = _
  rw [hf]
  show (evEs c [a] env s1).bind _ = _
  rw [evEs, bind_ok ha]
  exact hc
theorem sel2 {a b : E} {d e : D} (hi : evE c i env s = .ok (.sh, .int k) s1) (hf : L2.atI fs k = some f) (ha : evE c a env s1 = .ok (.sh, d) s2) (hb : evE c b env s2 = .ok (.sh, e) s3) (hc : c.call f [(.sh, d), (.sh, e)] s3 = r) : evE c (.sel fs i [a, b]) env s = r := by
  rw [evE, bind_ok hi]
  show (match L2.atI fs k with
    | some f => (evEs c [a, b] env s1).bind fun xs s2 => if mixed xs then .stk else c.call f (xs.map settle) s2
    | none => .stk) = _
  rw [hf]
  show (evEs c [a, b] env s1).bind _ = _
  rw [evEs, bind_ok ha, evEs, bind_ok hb]
  exact hc
end
end Ev
set_option Elab.async false
set_option linter.all false
set_option maxRecDepth 100000
set_option maxHeartbeats 0
namespace Hd
open PySem PySem.Spec PyProof.Rows L2
def top (i : Nat) : Stmt := PySem.Challenge.pw_slopekinds_k01_rows.main.body.getD i (.Pass ⟨0, 0, 0, 0⟩)
/-- is_whole -/
def d0 : He.DefD := ⟨("is_whole", none), "is_whole", "is_whole", defArgs (top 5), defBody (top 5), defScope (top 5), [], []⟩
def e0 : Ev.Df := ⟨d0, (["value"] : List Str), (["value"] : List Str)⟩
def f0 : Ev.Fn := ⟨1, 1, [(.ret (.and_ (.isi .int (.v 0)) (.not_ (.isi .bool (.v 0)))))]⟩
/-- is_row -/
def d1 : He.DefD := ⟨("is_row", none), "is_row", "is_row", defArgs (top 9), defBody (top 9), defScope (top 9), [], []⟩
def e1 : Ev.Df := ⟨d1, (["value", "item"] : List Str), (["value"] : List Str)⟩
def f1 : Ev.Fn := ⟨2, 1, [(.ifs (.or_ (.not_ (.isi .tuple (.v 0))) (.not_ (.chn .le .le (.k (.int 1)) (.bc .len [(.v 0)]) (.g 0)))) [(.ret (.k (.bl false)))] []),
  (.ret (.bc .all [(.lc (.and_ (.call 0 [(.v 1)]) (.chn .le .le (.neg (.g 1)) (.v 1) (.g 1))) (.nm 1) .seq [(.v 0)] [] [1])]))]⟩
/-- check_row -/
def d2 : He.DefD := ⟨("check_row", none), "check_row", "check_row", defArgs (top 10), defBody (top 10), defScope (top 10), [], []⟩
def e2 : Ev.Df := ⟨d2, (["value"] : List Str), (["value"] : List Str)⟩
def f2 : Ev.Fn := ⟨1, 1, [(.ifs (.not_ (.call 1 [(.v 0)])) [(.rse 1 [])] [])]⟩
/-- is_place -/
def d3 : He.DefD := ⟨("is_place", none), "is_place", "is_place", defArgs (top 11), defBody (top 11), defScope (top 11), [], []⟩
def e3 : Ev.Df := ⟨d3, (["row", "value"] : List Str), (["row", "value"] : List Str)⟩
def f3 : Ev.Fn := ⟨2, 2, [(.ret (.and_ (.call 0 [(.v 1)]) (.chn .le .lt (.k (.int 0)) (.v 1) (.bc .len [(.v 0)]))))]⟩
/-- steps_of -/
def d4 : He.DefD := ⟨("steps_of", none), "steps_of", "steps_of", defArgs (top 12), defBody (top 12), defScope (top 12), [], []⟩
def e4 : Ev.Df := ⟨d4, (["row", "first", "second"] : List Str), (["row"] : List Str)⟩
def f4 : Ev.Fn := ⟨3, 1, [(.lk [0] (.ret (.lc (.op .sub (.v 2) (.v 1)) (.tu [(.nm 1), (.nm 2)]) .zp [(.v 0), (.sl (.v 0) [(.k (.int 1))] [])] [] [1, 2])))]⟩
/-- steps -/
def d5 : He.DefD := ⟨("steps", none), "steps", "steps", defArgs (top 13), defBody (top 13), defScope (top 13), [], []⟩
def e5 : Ev.Df := ⟨d5, (["row"] : List Str), (["row"] : List Str)⟩
def f5 : Ev.Fn := ⟨1, 1, [(.ex (.call 2 [(.v 0)])),
  (.ret (.bc .tuple [(.call 4 [(.v 0)])]))]⟩
/-- refuse_great -/
def d6 : He.DefD := ⟨("refuse_great", none), "refuse_great", "refuse_great", defArgs (top 14), defBody (top 14), defScope (top 14), [], []⟩
def e6 : Ev.Df := ⟨d6, (["row"] : List Str), (["row"] : List Str)⟩
def f6 : Ev.Fn := ⟨1, 1, [(.ifs (.not_ (.call 1 [(.v 0)])) [(.rse 2 [(.k (.str ⟨#[108, 97, 114, 103, 101]⟩))])] []),
  (.ret (.v 0))]⟩
/-- from_steps -/
def d7 : He.DefD := ⟨("from_steps", none), "from_steps", "from_steps", defArgs (top 15), defBody (top 15), defScope (top 15), [], []⟩
def e7 : Ev.Df := ⟨d7, (["first", "row", "found", "step"] : List Str), (["first", "row"] : List Str)⟩
def f7 : Ev.Fn := ⟨4, 2, [(.lk [0] (.ifs (.or_ (.not_ (.call 1 [(.tup [(.v 0)])])) (.or_ (.not_ (.isi .tuple (.v 1))) (.cmp .ge (.bc .len [(.v 1)]) (.g 0)))) [(.rse 1 [])] [])),
  (.ifs (.not_ (.bc .all [(.lc (.and_ (.call 0 [(.v 3)]) (.chn .le .le (.op .mul (.neg (.k (.int 2))) (.g 1)) (.v 3) (.op .mul (.k (.int 2)) (.g 1)))) (.nm 3) .seq [(.v 1)] [] [3])])) [(.rse 1 [])] []),
  (.lk [0] (.asg (.nm 2) (.lst [(.v 0)]))),
  (.lk [1] (.for_ (.nm 3) .seq [(.v 1)] [(.app 2 (.op .add (.ix (.v 2) (.neg (.k (.int 1)))) (.v 3)))])),
  (.ret (.call 6 [(.bc .tuple [(.v 2)])]))]⟩
/-- backwards -/
def d8 : He.DefD := ⟨("backwards", none), "backwards", "backwards", defArgs (top 16), defBody (top 16), defScope (top 16), [], []⟩
def e8 : Ev.Df := ⟨d8, (["row"] : List Str), (["row"] : List Str)⟩
def f8 : Ev.Fn := ⟨1, 1, [(.ex (.call 2 [(.v 0)])),
  (.ret (.rev (.v 0)))]⟩
/-- turned -/
def d9 : He.DefD := ⟨("turned", none), "turned", "turned", defArgs (top 17), defBody (top 17), defScope (top 17), [], []⟩
def e9 : Ev.Df := ⟨d9, (["row", "item"] : List Str), (["row"] : List Str)⟩
def f9 : Ev.Fn := ⟨2, 1, [(.ex (.call 2 [(.v 0)])),
  (.ret (.bc .tuple [(.lc (.neg (.v 1)) (.nm 1) .seq [(.v 0)] [] [1])]))]⟩
/-- lifted -/
def d10 : He.DefD := ⟨("lifted", none), "lifted", "lifted", defArgs (top 18), defBody (top 18), defScope (top 18), [], []⟩
def e10 : Ev.Df := ⟨d10, (["row", "height", "item"] : List Str), (["row", "height"] : List Str)⟩
def f10 : Ev.Fn := ⟨3, 2, [(.ex (.call 2 [(.v 0)])),
  (.ifs (.not_ (.call 0 [(.v 1)])) [(.rse 1 [])] []),
  (.ret (.call 6 [(.bc .tuple [(.lc (.op .add (.v 2) (.v 1)) (.nm 2) .seq [(.v 0)] [] [2])])]))]⟩
/-- running -/
def d11 : He.DefD := ⟨("running", none), "running", "running", defArgs (top 19), defBody (top 19), defScope (top 19), [], []⟩
def e11 : Ev.Df := ⟨d11, (["row", "found", "item"] : List Str), (["row"] : List Str)⟩
def f11 : Ev.Fn := ⟨3, 1, [(.ex (.call 2 [(.v 0)])),
  (.asg (.nm 1) (.lst [(.ix (.v 0) (.k (.int 0)))])),
  (.for_ (.nm 2) .seq [(.sl (.v 0) [(.k (.int 1))] [])] [(.app 1 (.op .add (.ix (.v 1) (.neg (.k (.int 1)))) (.v 2)))]),
  (.ret (.call 6 [(.bc .tuple [(.v 1)])]))]⟩
/-- turnings -/
def d12 : He.DefD := ⟨("turnings", none), "turnings", "turnings", defArgs (top 20), defBody (top 20), defScope (top 20), [], []⟩
def e12 : Ev.Df := ⟨d12, (["row", "found", "place"] : List Str), (["row"] : List Str)⟩
def f12 : Ev.Fn := ⟨3, 1, [(.ex (.call 2 [(.v 0)])),
  (.asg (.nm 1) (.call 4 [(.v 0)])),
  (.ret (.bc .tuple [(.lc (.op .add (.v 2) (.k (.int 1))) (.nm 2) .rg1 [(.op .sub (.bc .len [(.v 1)]) (.k (.int 1)))] [(.cmp .ne (.ix (.v 1) (.v 2)) (.ix (.v 1) (.op .add (.v 2) (.k (.int 1)))))] [2])]))]⟩
/-- part -/
def d13 : He.DefD := ⟨("part", none), "part", "part", defArgs (top 21), defBody (top 21), defScope (top 21), [], []⟩
def e13 : Ev.Df := ⟨d13, (["row", "start", "stop"] : List Str), (["row", "start", "stop"] : List Str)⟩
def f13 : Ev.Fn := ⟨3, 3, [(.ex (.call 2 [(.v 0)])),
  (.ifs (.or_ (.not_ (.call 3 [(.v 0), (.v 1)])) (.or_ (.not_ (.call 0 [(.v 2)])) (.not_ (.chn .lt .le (.v 1) (.v 2) (.bc .len [(.v 0)]))))) [(.rse 1 [])] []),
  (.ret (.sl (.v 0) [(.v 1)] [(.v 2)]))]⟩
/-- _law_draw -/
def d14 : He.DefD := ⟨("_law_draw", none), "_law_draw", "_law_draw", defArgs (top 23), defBody (top 23), defScope (top 23), [], []⟩
def e14 : Ev.Df := ⟨d14, (["script", "seed", "cell"] : List Str), (["script"] : List Str)⟩
def f14 : Ev.Fn := ⟨3, 1, [(.asg (.nm 1) (.k (.int 7))),
  (.lk [0] (.for_ (.nm 2) .seq [(.v 0)] [(.asg (.nm 1) (.op .mod (.bc .int [(.op .add (.op .add (.op .mul (.v 1) (.k (.int 48271))) (.op .mod (.bc .abs [(.bc .int [(.v 2)])]) (.k (.int 65521)))) (.k (.int 1)))]) (.k (.int 2147483647))))])),
  (.lk [1] (.ret (.lst [(.lc (.bc .abs [(.bc .int [(.v 2)])]) (.nm 2) .seq [(.v 0)] [] [2]), (.neg (.k (.int 1))), (.k (.int 0)), (.v 1)])))]⟩
/-- _law_take -/
def d15 : He.DefD := ⟨("_law_take", none), "_law_take", "_law_take", defArgs (top 24), defBody (top 24), defScope (top 24), [], []⟩
def e15 : Ev.Df := ⟨d15, (["draw", "many", "found"] : List Str), (["draw", "many"] : List Str)⟩
def f15 : Ev.Fn := ⟨3, 2, [(.ifs (.cmp .eq (.ix (.v 0) (.k (.int 2))) (.k (.int 0))) [(.set 0 (.k (.int 1)) (.op .add (.ix (.v 0) (.k (.int 1))) (.k (.int 1)))), (.ifs (.cmp .lt (.ix (.v 0) (.k (.int 1))) (.bc .len [(.ix (.v 0) (.k (.int 0)))])) [(.set 0 (.k (.int 2)) (.ix (.ix (.v 0) (.k (.int 0))) (.ix (.v 0) (.k (.int 1)))))] []), (.ifs (.cmp .eq (.ix (.v 0) (.k (.int 2))) (.k (.int 0))) [(.set 0 (.k (.int 3)) (.op .mod (.bc .int [(.op .add (.op .mul (.ix (.v 0) (.k (.int 3))) (.k (.int 48271))) (.k (.int 11)))]) (.k (.int 2147483647)))), (.set 0 (.k (.int 2)) (.ix (.v 0) (.k (.int 3))))] [])] []),
  (.asg (.nm 2) (.op .mod (.bc .int [(.ix (.v 0) (.k (.int 2)))]) (.v 1))),
  (.set 0 (.k (.int 2)) (.op .fdiv (.ix (.v 0) (.k (.int 2))) (.v 1))),
  (.ret (.v 2))]⟩
/-- _law_says -/
def d16 : He.DefD := ⟨("_law_says", none), "_law_says", "_law_says", defArgs (top 25), defBody (top 25), defScope (top 25), [], []⟩
def e16 : Ev.Df := ⟨d16, (["value", "due"] : List Str), (["value", "due"] : List Str)⟩
def f16 : Ev.Fn := ⟨2, 2, [(.ret (.and_ (.isi .bool (.v 0)) (.cmp .eq (.v 0) (.v 1))))]⟩
/-- _law_row -/
def d17 : He.DefD := ⟨("_law_row", none), "_law_row", "_law_row", defArgs (top 26), defBody (top 26), defScope (top 26), [], []⟩
def e17 : Ev.Df := ⟨d17, (["draw", "most", "many", "style", "wide", "items", "rises", "k", "times", "mend", "item"] : List Str), (["draw", "most"] : List Str)⟩
def f17 : Ev.Fn := ⟨11, 2, [(.asg (.tu [(.nm 2), (.nm 3), (.nm 4)]) (.tup [(.op .add (.k (.int 1)) (.call 15 [(.v 0), (.v 1)])), (.call 15 [(.v 0), (.k (.int 11))]), (.ix (.lst [(.k (.int 1)), (.k (.int 3)), (.k (.int 9)), (.k (.int 60))]) (.call 15 [(.v 0), (.k (.int 4))]))])),
  (.lk [2] (.asg (.nm 5) (.lc (.op .sub (.call 15 [(.v 0), (.op .add (.op .mul (.k (.int 2)) (.v 4)) (.k (.int 1)))]) (.v 4)) (.nm 7) .rg1 [(.v 2)] [] [7]))),
  (.ifs (.cmp .in_ (.v 3) (.lst [(.k (.int 1)), (.k (.int 2)), (.k (.int 3))])) [(.lk [2] (.asg (.nm 6) (.bc .sorted [(.lc (.op .sub (.call 15 [(.v 0), (.op .add (.op .mul (.k (.int 2)) (.v 4)) (.k (.int 1)))]) (.v 4)) (.nm 7) .rg1 [(.v 2)] [] [7])]))), (.lk [6] (.asg (.nm 6) (.ite (.cmp .eq (.v 3) (.k (.int 1))) (.v 6) (.ite (.cmp .eq (.v 3) (.k (.int 2))) (.rev (.v 6)) (.op .mul (.sl (.v 6) [] [(.k (.int 1))]) (.v 2)))))), (.lk [2] (.for_ (.nm 7) .rg2 [(.k (.int 1)), (.v 2)] [(.set 5 (.v 7) (.op .add (.ix (.v 5) (.op .sub (.v 7) (.k (.int 1)))) (.ix (.v 6) (.v 7))))]))] []),
  (.ifs (.cmp .in_ (.v 3) (.lst [(.k (.int 4)), (.k (.int 5))])) [(.asg (.nm 5) (.ite (.cmp .eq (.v 3) (.k (.int 4))) (.bc .sorted [(.v 5)]) (.rev (.bc .sorted [(.v 5)]))))] []),
  (.ifs (.cmp .eq (.v 3) (.k (.int 6))) [(.psub [(8, []), (5, [(.k (.int 0))])] [(.op .add (.k (.int 1)) (.call 15 [(.v 0), (.k (.int 3))])), (.op .add (.k (.int 1)) (.call 15 [(.v 0), (.k (.int 3))]))]), (.lk [2] (.for_ (.nm 7) .rg2 [(.k (.int 1)), (.v 2)] [(.set 5 (.v 7) (.bc .min [(.op .add (.op .mul (.ix (.v 5) (.op .sub (.v 7) (.k (.int 1)))) (.v 8)) (.call 15 [(.v 0), (.k (.int 2))])), (.k (.int 900))]))]))] []),
  (.ifs (.cmp .eq (.v 3) (.k (.int 7))) [(.lk [2] (.for_ (.nm 7) .rg2 [(.k (.int 1)), (.v 2)] [(.set 5 (.v 7) (.op .sub (.op .add (.ix (.v 5) (.op .sub (.v 7) (.k (.int 1)))) (.call 15 [(.v 0), (.k (.int 3))])) (.k (.int 1))))]))] []),
  (.asg (.nm 9) (.call 15 [(.v 0), (.k (.int 9))])),
  (.ifs (.cmp .in_ (.v 9) (.lst [(.k (.int 1)), (.k (.int 2))])) [(.asg (.nm 5) (.lc (.op .sub (.op .add (.bc .abs [(.v 10)]) (.v 9)) (.k (.int 1))) (.nm 10) .seq [(.v 5)] [] [10]))] []),
  (.ifs (.cmp .eq (.v 9) (.k (.int 3))) [(.lk [2] (.asg (.nm 5) (.lc (.ix (.v 5) (.bc .min [(.v 7), (.op .sub (.op .sub (.v 2) (.k (.int 1))) (.v 7))])) (.nm 7) .rg1 [(.v 2)] [] [7])))] []),
  (.ifs (.cmp .eq (.v 9) (.k (.int 4))) [(.asg (.nm 5) (.lc (.op .sub (.v 10) (.ix (.v 5) (.k (.int 0)))) (.nm 10) .seq [(.v 5)] [] [10]))] []),
  (.ifs (.cmp .eq (.v 9) (.k (.int 5))) [(.asg (.nm 5) (.lc (.ix (.v 5) (.k (.int 0))) (.nm 10) .seq [(.v 5)] [] [10]))] []),
  (.ifs (.cmp .eq (.v 9) (.k (.int 6))) [(.set 5 (.neg (.k (.int 1))) (.bc .max [(.v 5)]))] []),
  (.ifs (.cmp .eq (.v 9) (.k (.int 7))) [(.asg (.nm 7) (.call 15 [(.v 0), (.v 2)])), (.set 5 (.v 7) (.op .sub (.op .add (.ix (.v 5) (.v 7)) (.call 15 [(.v 0), (.k (.int 3))])) (.k (.int 1))))] []),
  (.ret (.bc .tuple [(.lc (.bc .max [(.neg (.k (.int 1000))), (.bc .min [(.k (.int 1000)), (.v 10)])]) (.nm 10) .seq [(.v 5)] [] [10])]))]⟩
/-- _law_is_row -/
def d18 : He.DefD := ⟨("_law_is_row", none), "_law_is_row", "_law_is_row", defArgs (top 27), defBody (top 27), defScope (top 27), [], []⟩
def e18 : Ev.Df := ⟨d18, (["value", "item"] : List Str), (["value"] : List Str)⟩
def f18 : Ev.Fn := ⟨2, 1, [(.ifs (.or_ (.not_ (.isi .tuple (.v 0))) (.not_ (.chn .le .le (.k (.int 1)) (.bc .len [(.v 0)]) (.k (.int 12))))) [(.ret (.k (.bl false)))] []),
  (.ret (.bc .all [(.lc (.and_ (.isi .int (.v 1)) (.and_ (.not_ (.isi .bool (.v 1))) (.chn .le .le (.neg (.k (.int 1000))) (.v 1) (.k (.int 1000))))) (.nm 1) .seq [(.v 0)] [] [1])]))]⟩
/-- _law_bent -/
def d19 : He.DefD := ⟨("_law_bent", none), "_law_bent", "_law_bent", defArgs (top 28), defBody (top 28), defScope (top 28), [], []⟩
def e19 : Ev.Df := ⟨d19, (["draw", "data", "at"] : List Str), (["draw", "data"] : List Str)⟩
def f19 : Ev.Fn := ⟨3, 2, [(.ifs (.and_ (.isi .tuple (.v 1)) (.and_ (.cmp .gt (.bc .len [(.v 1)]) (.k (.int 0))) (.cmp .gt (.call 15 [(.v 0), (.k (.int 4))]) (.k (.int 0))))) [(.asg (.nm 2) (.call 15 [(.v 0), (.bc .len [(.v 1)])])), (.ret (.op .add (.op .add (.sl (.v 1) [] [(.v 2)]) (.tup [(.call 19 [(.v 0), (.ix (.v 1) (.v 2))])])) (.sl (.v 1) [(.op .add (.v 2) (.k (.int 1)))] [])))] []),
  (.ifs (.isi .tuple (.v 1)) [(.ret (.ix (.lst [(.bc .list [(.v 1)]), (.op .add (.v 1) (.tup [(.k (.int 0))])), (.sl (.v 1) [] [(.neg (.k (.int 1)))]), (.rev (.v 1)), (.k .non), (.tup [])]) (.call 15 [(.v 0), (.k (.int 6))])))] []),
  (.ifs (.isi .str (.v 1)) [(.ret (.ix (.lst [(.k (.str ⟨#[108, 105, 110, 101, 115]⟩)), (.k (.str ⟨#[108, 105, 110, 101]⟩)), (.k (.str ⟨#[110, 117, 109, 98, 101, 114]⟩)), (.k (.str ⟨#[114, 105, 115, 101]⟩)), (.k (.str ⟨#[112, 108, 97, 99, 101, 115]⟩))]) (.call 15 [(.v 0), (.k (.int 5))])))] []),
  (.lk [1] (.ret (.ite (.isi .int (.v 1)) (.ix (.lst [(.k (.int 0)), (.k (.int 1)), (.op .add (.v 1) (.k (.int 1))), (.op .sub (.v 1) (.k (.int 1))), (.cmp .eq (.v 1) (.k (.int 1))), (.k .non), (.k (.str ⟨#[48]⟩)), (.tup [(.v 1)]), (.k (.int 12))]) (.call 15 [(.v 0), (.k (.int 9))])) (.k (.int 0)))))]⟩
/-- _law_ask -/
def d20 : He.DefD := ⟨("_law_ask", none), "_law_ask", "_law_ask", defArgs (top 29), defBody (top 29), defScope (top 29), [], []⟩
def e20 : Ev.Df := ⟨d20, (["which", "one", "two", "three", "refusal"] : List Str), (["which", "one", "two", "three"] : List Str)⟩
def f20 : Ev.Fn := ⟨5, 4, [(.try_ [(.ifs (.cmp .lt (.v 0) (.k (.int 5))) [(.ret (.sel [5, 8, 9, 11, 12] (.v 0) [(.v 1)]))] []), (.ret (.ite (.cmp .eq (.v 0) (.k (.int 7))) (.call 13 [(.v 1), (.v 2), (.v 3)]) (.sel [10, 7] (.op .sub (.v 0) (.k (.int 5))) [(.v 1), (.v 2)])))] [(1, [(.ret (.k (.str ⟨#[60, 109, 97, 108, 102, 111, 114, 109, 101, 100, 62]⟩)))]), (2, [(.hx 4 (.cat ⟨#[60]⟩ ⟨#[62]⟩))])])]⟩
/-- _law_fits -/
def d21 : He.DefD := ⟨("_law_fits", none), "_law_fits", "_law_fits", defArgs (top 30), defBody (top 30), defScope (top 30), [], []⟩
def e21 : Ev.Df := ⟨d21, (["row"] : List Str), (["row"] : List Str)⟩
def f21 : Ev.Fn := ⟨1, 1, [(.ret (.ite (.call 18 [(.v 0)]) (.v 0) (.k (.str ⟨#[60, 108, 97, 114, 103, 101, 62]⟩))))]⟩
/-- law -/
def d22 : He.DefD := ⟨("law", none), "law", "law", defArgs (top 31), defBody (top 31), defScope (top 31), [], []⟩
def e22 : Ev.Df := ⟨d22, (["script", "draw", "a", "n", "turn", "bad", "rises", "height", "low", "high", "more", "due", "step", "bads", "which", "k", "item", "one", "two", "three"] : List Str), (["script"] : List Str)⟩
def sL : Ev.S := (.asg (.nm 1) (.call 14 [(.v 0)]))
def rL : List Ev.S := [(.asg (.nm 2) (.call 17 [(.v 1), (.k (.int 12))])),
  (.asg (.nm 3) (.bc .len [(.v 2)])),
  (.ifs (.or_ (.cmp .isnt (.call 1 [(.v 2)]) (.k (.bl true))) (.not_ (.call 18 [(.v 2)]))) [(.ret (.k (.bl false)))] []),
  (.for_ (.nm 4) .rg1 [(.k (.int 6))] [(.asg (.nm 5) (.call 19 [(.v 1), (.v 2)])), (.ifs (.not_ (.call 16 [(.call 1 [(.v 5)]), (.call 18 [(.v 5)])])) [(.ret (.k (.bl false)))] []), (.ifs (.and_ (.not_ (.call 18 [(.v 5)])) (.cmp .ne (.lc (.call 20 [(.v 14), (.v 5), (.k (.int 0)), (.k (.int 1))]) (.nm 14) .seq [(.lst [(.k (.int 0)), (.k (.int 1)), (.k (.int 2)), (.k (.int 3)), (.k (.int 4)), (.k (.int 5)), (.k (.int 7))])] [] [14]) (.op .mul (.lst [(.k (.str ⟨#[60, 109, 97, 108, 102, 111, 114, 109, 101, 100, 62]⟩))]) (.k (.int 7))))) [(.ret (.k (.bl false)))] [])]),
  (.asg (.nm 6) (.bc .tuple [(.lc (.op .sub (.ix (.v 2) (.op .add (.v 15) (.k (.int 1)))) (.ix (.v 2) (.v 15))) (.nm 15) .rg1 [(.op .sub (.v 3) (.k (.int 1)))] [] [15])])),
  (.lk [3] (.ifs (.or_ (.cmp .ne (.call 20 [(.k (.int 0)), (.v 2), (.k (.int 0)), (.k (.int 0))]) (.v 6)) (.or_ (.cmp .ne (.call 20 [(.k (.int 1)), (.v 2), (.k (.int 0)), (.k (.int 0))]) (.bc .tuple [(.lc (.ix (.v 2) (.op .sub (.op .sub (.v 3) (.k (.int 1))) (.v 15))) (.nm 15) .rg1 [(.v 3)] [] [15])])) (.cmp .ne (.call 20 [(.k (.int 2)), (.v 2), (.k (.int 0)), (.k (.int 0))]) (.bc .tuple [(.lc (.op .sub (.k (.int 0)) (.v 16)) (.nm 16) .seq [(.v 2)] [] [16])])))) [(.ret (.k (.bl false)))] [])),
  (.lk [3] (.ifs (.or_ (.cmp .ne (.call 20 [(.k (.int 6)), (.ix (.v 2) (.k (.int 0))), (.v 6), (.k (.int 0))]) (.v 2)) (.cmp .ne (.call 20 [(.k (.int 3)), (.v 2), (.k (.int 0)), (.k (.int 0))]) (.call 21 [(.bc .tuple [(.lc (.bc .sum [(.sl (.v 2) [] [(.op .add (.v 15) (.k (.int 1)))])]) (.nm 15) .rg1 [(.v 3)] [] [15])])]))) [(.ret (.k (.bl false)))] [])),
  (.ifs (.cmp .ne (.call 20 [(.k (.int 4)), (.v 2), (.k (.int 0)), (.k (.int 0))]) (.bc .tuple [(.lc (.v 15) (.nm 15) .rg2 [(.k (.int 1)), (.op .sub (.v 3) (.k (.int 1)))] [(.cmp .ne (.ix (.v 6) (.op .sub (.v 15) (.k (.int 1)))) (.ix (.v 6) (.v 15)))] [15])])) [(.ret (.k (.bl false)))] []),
  (.for_ (.nm 7) .seq [(.lst [(.k (.int 0)), (.op .sub (.call 15 [(.v 1), (.k (.int 2400))]) (.k (.int 1200))), (.op .sub (.k (.int 1000)) (.bc .max [(.v 2)])), (.op .sub (.k (.int 1001)) (.bc .max [(.v 2)]))])] [(.ifs (.cmp .ne (.call 20 [(.k (.int 5)), (.v 2), (.v 7), (.k (.int 0))]) (.call 21 [(.bc .tuple [(.lc (.op .add (.v 16) (.v 7)) (.nm 16) .seq [(.v 2)] [] [16])])])) [(.ret (.k (.bl false)))] [])]),
  (.asg (.nm 8) (.call 15 [(.v 1), (.v 3)])),
  (.asg (.nm 9) (.op .add (.op .add (.v 8) (.k (.int 1))) (.call 15 [(.v 1), (.op .sub (.v 3) (.v 8))]))),
  (.lk [8, 9] (.ifs (.cmp .ne (.call 20 [(.k (.int 7)), (.v 2), (.v 8), (.v 9)]) (.bc .tuple [(.lc (.ix (.v 2) (.v 15)) (.nm 15) .rg2 [(.v 8), (.v 9)] [] [15])])) [(.ret (.k (.bl false)))] [])),
  (.asg (.nm 10) (.bc .tuple [(.lc (.op .sub (.call 15 [(.v 1), (.k (.int 4001))]) (.k (.int 2000))) (.nm 15) .rg1 [(.call 15 [(.v 1), (.k (.int 12))])] [] [15])])),
  (.asg (.nm 11) (.lst [(.ix (.v 2) (.k (.int 0)))])),
  (.lk [10] (.for_ (.nm 12) .seq [(.v 10)] [(.app 11 (.op .add (.ix (.v 11) (.neg (.k (.int 1)))) (.v 12)))])),
  (.ifs (.cmp .ne (.call 20 [(.k (.int 6)), (.ix (.v 2) (.k (.int 0))), (.v 10), (.k (.int 0))]) (.call 21 [(.bc .tuple [(.v 11)])])) [(.ret (.k (.bl false)))] []),
  (.lk [2, 3] (.asg (.nm 13) (.lst [(.tup [(.k (.int 5)), (.v 2), (.k .non), (.k (.int 0))]), (.tup [(.k (.int 5)), (.v 2), (.k (.bl true)), (.k (.int 0))]), (.tup [(.k (.int 6)), (.k (.int 1001)), (.tup []), (.k (.int 0))]), (.tup [(.k (.int 6)), (.k (.int 0)), (.op .mul (.tup [(.k (.int 0))]) (.k (.int 12))), (.k (.int 0))]), (.tup [(.k (.int 6)), (.k (.int 0)), (.tup [(.k (.int 2001))]), (.k (.int 0))]), (.tup [(.k (.int 6)), (.k (.int 0)), (.lst [(.k (.int 0))]), (.k (.int 0))]), (.tup [(.k (.int 6)), (.k (.bl true)), (.tup []), (.k (.int 0))]), (.tup [(.k (.int 6)), (.k (.int 0)), (.tup [(.k (.bl true))]), (.k (.int 0))]), (.tup [(.k (.int 7)), (.v 2), (.v 3), (.op .add (.v 3) (.k (.int 1)))])]))),
  (.lk [2] (.asg (.nm 13) (.op .add (.v 13) (.lst [(.tup [(.k (.int 7)), (.v 2), (.k (.int 0)), (.k (.int 0))]), (.tup [(.k (.int 7)), (.v 2), (.k (.int 0)), (.op .add (.v 3) (.k (.int 1)))]), (.tup [(.k (.int 7)), (.v 2), (.k (.bl true)), (.k (.int 1))]), (.tup [(.k (.int 7)), (.v 2), (.k (.int 0)), (.k .non)]), (.tup [(.k (.int 7)), (.v 2), (.neg (.k (.int 1))), (.k (.int 1))])])))),
  (.ret (.bc .all [(.lc (.cmp .eq (.call 20 [(.v 14), (.v 17), (.v 18), (.v 19)]) (.k (.str ⟨#[60, 109, 97, 108, 102, 111, 114, 109, 101, 100, 62]⟩))) (.tu [(.nm 14), (.nm 17), (.nm 18), (.nm 19)]) .seq [(.v 13)] [] [14, 17, 18, 19])]))]
def ds : List Ev.Df := [e0, e1, e2, e3, e4, e5, e6, e7, e8, e9, e10, e11, e12, e13, e14, e15, e16, e17, e18, e19, e20, e21]
def P : List Ev.Fn := [f0, f1, f2, f3, f4, f5, f6, f7, f8, f9, f10, f11, f12, f13, f14, f15, f16, f17, f18, f19, f20, f21]
def cs : List (Str × Ev.D) := [("MOST_PLACES", (.int 12)),
  ("MOST_WORTH", (.int 1000))]
def gl : List Ev.D := cs.map fun p => p.2
def tb : Ev.Tab := ⟨(["MOST_PLACES", "MOST_WORTH"] : List Str), (("is_whole", 1) :: ("is_row", 1) :: ("check_row", 1) :: ("is_place", 2) :: ("steps_of", 1) :: ("steps", 1) :: ("refuse_great", 1) :: ("from_steps", 2) :: ("backwards", 1) :: ("turned", 1) :: ("lifted", 2) :: ("running", 1) :: ("turnings", 1) :: ("part", 3) :: ("_law_draw", 1) :: ("_law_take", 2) :: ("_law_says", 2) :: ("_law_row", 2) :: ("_law_is_row", 1) :: ("_law_bent", 2) :: ("_law_ask", 4) :: ("_law_fits", 1) ::  [] : List (Str × Nat)), [("Fault", true), ("Malformed", true), ("Refused", false)], (["abs", "all", "bool", "int", "isinstance", "len", "list", "max", "min", "range", "sorted", "str", "sum", "super", "tuple", "zip"] : List Str), (["Refused"] : List Str), false⟩
def sb : List (Nat × Nat) := [(0, 0), (1, 0), (1, 1), (2, 0), (2, 2)]
def xs : Ev.Xs := ⟨(["Refused"] : List Str), "/claim/cut.py", ([] : List Str), sb⟩
abbrev cc (n : Nat) : Ev.Cc := ⟨gl, sb, Ev.evC P gl sb 100 n, 100⟩
end Hd
set_option Elab.async false
set_option linter.all false
set_option maxRecDepth 100000
set_option maxHeartbeats 0
namespace Hd
open PySem PySem.Spec PyProof.Rows L2
theorem b0 : Ev.bodyOf tb e0 = some f0 := by kernel_rfl
theorem b1 : Ev.bodyOf tb e1 = some f1 := by kernel_rfl
theorem b2 : Ev.bodyOf tb e2 = some f2 := by kernel_rfl
theorem b3 : Ev.bodyOf tb e3 = some f3 := by kernel_rfl
theorem b4 : Ev.bodyOf tb e4 = some f4 := by kernel_rfl
theorem b5 : Ev.bodyOf tb e5 = some f5 := by kernel_rfl
theorem b6 : Ev.bodyOf tb e6 = some f6 := by kernel_rfl
theorem b7 : Ev.bodyOf tb e7 = some f7 := by kernel_rfl
theorem b8 : Ev.bodyOf tb e8 = some f8 := by kernel_rfl
theorem b9 : Ev.bodyOf tb e9 = some f9 := by kernel_rfl
theorem b10 : Ev.bodyOf tb e10 = some f10 := by kernel_rfl
theorem b11 : Ev.bodyOf tb e11 = some f11 := by kernel_rfl
theorem b12 : Ev.bodyOf tb e12 = some f12 := by kernel_rfl
theorem b13 : Ev.bodyOf tb e13 = some f13 := by kernel_rfl
theorem b14 : Ev.bodyOf tb e14 = some f14 := by kernel_rfl
theorem b15 : Ev.bodyOf tb e15 = some f15 := by kernel_rfl
theorem b16 : Ev.bodyOf tb e16 = some f16 := by kernel_rfl
theorem b17 : Ev.bodyOf tb e17 = some f17 := by kernel_rfl
theorem b18 : Ev.bodyOf tb e18 = some f18 := by kernel_rfl
theorem b19 : Ev.bodyOf tb e19 = some f19 := by kernel_rfl
theorem b20 : Ev.bodyOf tb e20 = some f20 := by kernel_rfl
theorem b21 : Ev.bodyOf tb e21 = some f21 := by kernel_rfl
theorem bL : Ev.bodyOf tb e22 = some ⟨e22.N.length, 1, sL :: rL⟩ := by kernel_rfl
theorem hP : Ev.allOf tb ds = some P := by
  simp only [ds, Ev.allOf, b0, b1, b2, b3, b4, b5, b6, b7, b8, b9, b10, b11, b12, b13, b14, b15, b16, b17, b18, b19, b20, b21, Option.bind_some, Option.map_some, P]
theorem bds : Ev.Bds ds := ⟨fun _ _ _ _ _ _ us hl => match us, hl with | [_], _ => rfl, fun _ _ _ _ _ _ us hl => match us, hl with | [_], _ => rfl, fun _ _ _ _ _ _ us hl => match us, hl with | [_], _ => rfl, fun _ _ _ _ _ _ us hl => match us, hl with | [_, _], _ => rfl, fun _ _ _ _ _ _ us hl => match us, hl with | [_], _ => rfl, fun _ _ _ _ _ _ us hl => match us, hl with | [_], _ => rfl, fun _ _ _ _ _ _ us hl => match us, hl with | [_], _ => rfl, fun _ _ _ _ _ _ us hl => match us, hl with | [_, _], _ => rfl, fun _ _ _ _ _ _ us hl => match us, hl with | [_], _ => rfl, fun _ _ _ _ _ _ us hl => match us, hl with | [_], _ => rfl, fun _ _ _ _ _ _ us hl => match us, hl with | [_, _], _ => rfl, fun _ _ _ _ _ _ us hl => match us, hl with | [_], _ => rfl, fun _ _ _ _ _ _ us hl => match us, hl with | [_], _ => rfl, fun _ _ _ _ _ _ us hl => match us, hl with | [_, _, _], _ => rfl, fun _ _ _ _ _ _ us hl => match us, hl with | [_], _ => rfl, fun _ _ _ _ _ _ us hl => match us, hl with | [_, _], _ => rfl, fun _ _ _ _ _ _ us hl => match us, hl with | [_, _], _ => rfl, fun _ _ _ _ _ _ us hl => match us, hl with | [_, _], _ => rfl, fun _ _ _ _ _ _ us hl => match us, hl with | [_], _ => rfl, fun _ _ _ _ _ _ us hl => match us, hl with | [_, _], _ => rfl, fun _ _ _ _ _ _ us hl => match us, hl with | [_, _, _, _], _ => rfl, fun _ _ _ _ _ _ us hl => match us, hl with | [_], _ => rfl, trivial⟩
theorem bdL : Ev.Bd e22 := fun _ _ _ _ _ _ us hl => match us, hl with | [_], _ => rfl
end Hd
set_option Elab.async false
set_option linter.all false
set_option maxRecDepth 100000
set_option maxHeartbeats 1000000
namespace Hd
open PySem PySem.Spec PyProof.Rows L2 Ev
abbrev ev (n : Nat) := evC P gl sb 100 n
abbrev cx (n : Nat) : Cc := ⟨gl, sb, ev n, 100⟩
theorem op_ {n i : Nat} {fn : Fn} (h : P[i]? = some fn) (xs : List VD) (s : Sg) (hl : xs.length = fn.np) : ev (n + 1) i xs s = backF (xs.any isLo) (evSs (cx n) fn.body (Ev.envOf fn xs) s) := open_ h xs s hl
theorem cc_call (n i : Nat) (xs : List VD) (s : Sg) : (cx n).call i xs s = ev n i xs s := rfl
theorem tk (n : Nat) : Tk (cx (n + 1)) 15 := fun s hs m h0 h1 => take_call (P := P) (i := 15) rfl hs h0 h1
abbrev tz (zs : List Int) : D := .tup (zs.map .int)
abbrev tl (zs : List Int) : D := .lst (zs.map .int)
abbrev large : Str := ⟨#[108, 97, 114, 103, 101]⟩
abbrev malS : Str := ⟨#[60, 109, 97, 108, 102, 111, 114, 109, 101, 100, 62]⟩
abbrev lgS : Str := ⟨#[60, 108, 97, 114, 103, 101, 62]⟩
abbrev mal (s : Sg) : Out VD := .ex ⟨1, none⟩ s
abbrev ref_ (s : Sg) : Out VD := .ex ⟨2, some (.str large)⟩ s
section
variable {a zs : List Int} {s : Sg} {d : D}
theorem c_crow (n : Nat) (hd : okR d = true) (s : Sg) : ev (n + 3) 2 [(.sh, d)] s = if rowD d then .ok (.sh, .non) s else mal s := c_checkrowG (P := P) (gl := gl) (sb := sb) (fuel := 100) (w := 0) (a := 0) (b := 1) (r := 1) (c := 2) (x := 1) rfl rfl rfl rfl rfl n hd s
theorem ck_ok {n i j : Nat} {d : D} {env : Ev.Env} (h : env[j]? = some (some (false, d))) (c : ev n i [(.sh, d)] s = .ok (.sh, .non) s) : evS (cx n) (.ex (.call i [.v j])) env s = .nx env s := by
  have e0 : evE (cx n) (.call i [.v j]) env s = .ok (.sh, .non) s := call1 (d := d) (s1 := s) (by simp [evSs, evS, evE, evEs, evTs, evT, Out.bind, Out.sr, lift, SR.seq, ixV, truD, cmD, opD, plainD, eqD, setS, setV, keep, bcD, dat, ixD, optS, asgV, asgVs, asgD, asgDs, backF, Ev.lent, Ev.leaves, testsD, keeps, flatD, inD, itV, itW, isLo, isSeq, itD, owned, Ev.unown, mixed, isFr, Ev.settle, oneI, slD, isiD, augV, flatAt, noEx, h]) (by rw [cc_call]; exact c)
  rw [evS, e0]; rfl
theorem ck_ex {n i j : Nat} {d : D} {env : Ev.Env} {x : Exn} (h : env[j]? = some (some (false, d))) (c : ev n i [(.sh, d)] s = .ex x s) : evS (cx n) (.ex (.call i [.v j])) env s = .ex x env s := by
  have e0 : evE (cx n) (.call i [.v j]) env s = .ex x s := call1 (d := d) (s1 := s) (by simp [evSs, evS, evE, evEs, evTs, evT, Out.bind, Out.sr, lift, SR.seq, ixV, truD, cmD, opD, plainD, eqD, setS, setV, keep, bcD, dat, ixD, optS, asgV, asgVs, asgD, asgDs, backF, Ev.lent, Ev.leaves, testsD, keeps, flatD, inD, itV, itW, isLo, isSeq, itD, owned, Ev.unown, mixed, isFr, Ev.settle, oneI, slD, isiD, augV, flatAt, noEx, h]) (by rw [cc_call]; exact c)
  rw [evS, e0]; rfl
theorem okR_tz (zs : List Int) : okR (tz zs) = true := by
  show (zs.map D.int).all okD = true
  exact List.all_eq_true.mpr fun d hd => by obtain ⟨z, _, rfl⟩ := List.mem_map.mp hd; rfl
theorem row_ck (n : Nat) (h : Row a) {env : Ev.Env} (h0 : env[0]? = some (some (false, tz a))) : evS (cx (n + 3)) (.ex (.call 2 [.v 0])) env s = .nx env s := ck_ok h0 (by
  have w := c_crow n (okR_tz a) s
  rw [row_rowD h, if_pos rfl] at w
  exact w)
theorem row_bad (n : Nat) (hd : okR d = true) (hr : rowD d = false) {env : Ev.Env} (h0 : env[0]? = some (some (false, d))) : evS (cx (n + 3)) (.ex (.call 2 [.v 0])) env s = .ex ⟨1, none⟩ env s := ck_ex h0 (by
  have w := c_crow n hd s
  rw [hr, if_neg Bool.false_ne_true] at w
  exact w)
/-- refuse_great -/
theorem c_rg (n : Nat) (h1 : 1 ≤ zs.length) (h2 : zs.length ≤ 12) (s : Sg) : ev (n + 3) 6 [(.sh, tz zs)] s = if fitB zs then .ok (.sh, tz zs) s else ref_ s := by
  rw [op_ (fn := f6) rfl _ _ rfl]
  let env : Ev.Env := [some (false, tz zs)]
  have w : ev (n + 2) 1 [(.sh, tz zs)] s = .ok (.sh, .bl (fitB zs)) s := c_isrowI (P := P) (gl := gl) (sb := sb) (fuel := 100) (w := 0) (a := 0) (b := 1) (r := 1) rfl rfl rfl rfl n h1 h2 s
  have e2 : evE (cx (n + 2)) (.not_ (.call 1 [(.v 0)])) env s = .ok (.sh, .bl (!fitB zs)) s := not_ok (call1 rfl (by rw [cc_call]; exact w))
  show backF _ (evSs (cx (n + 2)) [.ifs _ [.rse 2 _] [], .ret (.v 0)] env s) = _
  rw [evSs]
  cases hf : fitB zs with
  | true => rw [hf] at e2; rw [ifs0 e2]; rfl
  | false => rw [hf] at e2; rw [ifs_t e2]; rfl
theorem ret_rg {n : Nat} {e : E} {env : Ev.Env} (h1 : 1 ≤ zs.length) (h2 : zs.length ≤ 12) (h : evE (cx (n + 3)) e env s = .ok (.sh, tz zs) s) : backF false (evSs (cx (n + 3)) [.ret (.call 6 [e])] env s) = if fitB zs then .ok (.sh, tz zs) s else ref_ s := by
  have e2 : evE (cx (n + 3)) (.call 6 [e]) env s = (if fitB zs then .ok (.sh, tz zs) s else ref_ s) := call1 h (by rw [cc_call]; exact c_rg n h1 h2 s)
  rw [evSs, evS, e2]
  cases fitB zs <;> rfl
theorem c_st (n : Nat) (h : Row a) (s : Sg) : ev (n + 4) 5 [(.sh, tz a)] s = .ok (.sh, tz (stepsI a)) s := by
  have l := h.2.1
  rw [op_ (fn := f5) rfl _ _ rfl]
  have e : evE (cx (n + 3)) (.call 4 [(.v 0)]) [some (false, tz a)] s = .ok (.fr, tl (stepsI a)) s := call1 (d := tz a) (s1 := s) rfl (by rw [cc_call]; exact c_steps (P := P) (gl := gl) (sb := sb) (fuel := 100) (j := 4) rfl (n + 2) (by omega))
  show backF _ (evSs (cx (n + 3)) [_, .ret (.bc .tuple [_])] [some (false, tz a)] s) = _
  rw [seq_one (row_ck n h rfl), evSs, ret_sh (bc1 e rfl)]; rfl
theorem c_back (n : Nat) (h : Row a) (s : Sg) : ev (n + 4) 8 [(.sh, tz a)] s = .ok (.sh, tz a.reverse) s := by
  rw [op_ (fn := f8) rfl _ _ rfl]
  show backF _ (evSs (cx (n + 3)) [_, .ret (.rev (.v 0))] [some (false, tz a)] s) = _
  rw [seq_one (row_ck n h rfl)]
  show Out.ok (Kd.sh, D.tup (a.map D.int).reverse) s = Out.ok (Kd.sh, D.tup (a.reverse.map D.int)) s
  rw [List.map_reverse]
theorem lc_map {c : Cc} {env : Ev.Env} {i x : Nat} {e : E} {l : List Int} (g : Int → Int) (hl : l.length ≤ 1000) (h : evE c (.v i) env s = .ok (.sh, tz l) s) (he : ∀ y, evE c e ((wipeE env [x]).set x (some (false, .int y))) s = .ok (.sh, .int (g y)) s) : evE c (.bc .tuple [(.lc e (.nm x) .seq [(.v i)] [] [x])]) env s = .ok (.sh, tz (l.map g)) s := by
  have e1 := lc_seq (c := c) (e := e) (a := .v i) (x := x) (env := env) (s := s) (own := [x]) (k := .sh) (d0 := tz l) (l := l.map D.int) (fun d => match d with | .int y => .int (g y) | _ => .non) (.inl rfl) (by rw [List.length_map]; exact hl) h (fun d hd => by
    obtain ⟨y, hy, rfl⟩ := List.mem_map.mp hd
    exact he y)
  have q : (l.map D.int).map (fun d => match d with | .int y => D.int (g y) | _ => .non) = (l.map g).map .int := by rw [List.map_map, List.map_map]; rfl
  rw [q] at e1
  exact bc1 e1 rfl
theorem c_turn (n : Nat) (h : Row a) (s : Sg) : ev (n + 4) 9 [(.sh, tz a)] s = .ok (.sh, tz (a.map fun x => -x)) s := by
  have l := h.2.1
  rw [op_ (fn := f9) rfl _ _ rfl]
  have e := lc_map (c := cx (n + 3)) (s := s) (env := [some (false, tz a), none]) (i := 0) (x := 1) (e := .neg (.v 1)) (l := a) (fun x => -x) (by omega) rfl (fun y => rfl)
  show backF _ (evSs (cx (n + 3)) [_, .ret _] [some (false, tz a), none] s) = _
  rw [seq_one (row_ck n h rfl), evSs, ret_sh e]; rfl
theorem c_lift (n : Nat) (h : Row a) (t : Int) (s : Sg) : ev (n + 4) 10 [(.sh, tz a), (.sh, .int t)] s = if fitB (a.map (· + t)) then .ok (.sh, tz (a.map (· + t))) s else ref_ s := by
  have l := h.2.1
  have l1 := h.1
  rw [op_ (fn := f10) rfl _ _ rfl]
  let env : Ev.Env := [some (false, tz a), some (false, .int t), none]
  have e := lc_map (c := cx (n + 3)) (s := s) (env := env) (i := 0) (x := 2) (e := .op .add (.v 2) (.v 1)) (l := a) (· + t) (by omega) rfl (fun y => rfl)
  have b : evS (cx (n + 3)) (.ifs (.not_ (.call 0 [(.v 1)])) [(.rse 1 [])] []) env s = .nx env s := ifs0 (not_ok (b := true) (call1 (d := .int t) (s1 := s) rfl (by rw [cc_call]; exact c_whole (P := P) (gl := gl) (sb := sb) (fuel := 100) (w := 0) rfl (n + 2) (d := .int t) rfl s)))
  show backF _ (evSs (cx (n + 3)) [_, _, .ret _] env s) = _
  rw [seq_one (row_ck n h rfl), seq_one b]
  exact ret_rg (by rw [List.length_map]; omega) (by rw [List.length_map]; omega) e
theorem c_run (n : Nat) (h : Row a) (s : Sg) : ev (n + 4) 11 [(.sh, tz a)] s = if fitB (run (a.getD 0 0) (a.drop 1)) then .ok (.sh, tz (run (a.getD 0 0) (a.drop 1))) s else ref_ s := by
  have l := h.2.1
  have l1 := h.1
  rw [op_ (fn := f11) rfl _ _ rfl]
  let c := cx (n + 3)
  let env : Ev.Env := [some (false, tz a), none, none]
  let env2 : Ev.Env := [some (false, tz a), some (true, .lst [.int (a.getD 0 0)]), none]
  have x0 : evE c (.ix (.v 0) (.k (.int 0))) env s = .ok (.sh, .int (a.getD 0 0)) s := sq_ix (.t (b := a)) (j := 0) (k := .sh) (k' := .sh) (by omega) rfl rfl
  have b1 : evS c (.asg (.nm 1) (.lst [(.ix (.v 0) (.k (.int 0)))])) env s = .nx env2 s := asg_fr (by rw [evE, evEs, bind_ok x0]; rfl)
  have sl : evE c (.sl (.v 0) [(.k (.int 1))] []) env2 s = .ok (.sh, .tup (cutD (a.map .int) (some 1) none)) s := sl_lo (k := .sh) (k' := .sh) rfl rfl
  have ct := cut_tl (a.map D.int) 1
  rw [show ((1 : Nat) : Int) = 1 from rfl, ← List.map_drop] at ct
  rw [ct] at sl
  obtain ⟨y, b2⟩ := run_loop (c := c) (s := s) (env0 := env2) (t := 2) (i := 1) (k := .seq) (ies := [(.sl (.v 0) [(.k (.int 1))] [])]) (L := a.drop 1) (x := a.getD 0 0) (by rw [List.length_drop]; omega) rfl (by decide) (by show 2 < 3; decide) (evEs1 sl) rfl
  show backF _ (evSs c [_, _, _, .ret (.call 6 [.bc .tuple [.v 1]])] env s) = _
  rw [seq_one (row_ck n h rfl), seq_one b1, seq_one b2]
  exact ret_rg (env := [some (false, tz a), some (true, tl (run (a.getD 0 0) (a.drop 1))), y]) (by rw [run_len]; omega) (by rw [run_len, List.length_drop]; omega) rfl
/-- turnings -/
def trn (S : List Int) : List Int := ((rngL 0 ((S.length : Int) - 1)).filter fun p => !decide (S.getD p.toNat 0 = S.getD (p.toNat + 1) 0)).map (· + 1)
theorem itV_r1 {m : Int} (h0 : -1000000 ≤ m) (h1 : m ≤ 1000000) : itV .rg1 [(.sh, .int m)] = some ((rngL 0 m).map .int) := by
  have o : rgOk 0 m = true := by
    unfold rgOk
    simp
    omega
  show (if rgOk 0 m then some (rngI 0 m) else none) = _
  rw [if_pos o, rngL_I]
theorem ne_int (x y : Int) : cmD .ne (.int x) (.int y) = some (!decide (x = y)) := rfl
theorem c_trn (n : Nat) (h : Row a) (s : Sg) : ev (n + 4) 12 [(.sh, tz a)] s = .ok (.sh, tz (trn (stepsI a))) s := by
  have l := h.2.1
  have l1 := h.1
  have lS := stepsI_len a
  rw [op_ (fn := f12) rfl _ _ rfl]
  let c := cx (n + 3)
  let env : Ev.Env := [some (false, tz a), none, none]
  let env2 : Ev.Env := [some (false, tz a), some (true, tl (stepsI a)), none]
  have b1 : evS c (.asg (.nm 1) (.call 4 [(.v 0)])) env s = .nx env2 s := asg_fr (call1 (d := tz a) (s1 := s) rfl (by rw [cc_call]; exact c_steps (P := P) (gl := gl) (sb := sb) (fuel := 100) (j := 4) rfl (n + 2) (by omega)))
  have ln : evE c (.op .sub (.bc .len [(.v 1)]) (.k (.int 1))) env2 s = .ok (.sh, .int (((stepsI a).length : Int) - 1)) s := op_ok (k := .sh) (k' := .sh) (s1 := s) (y := .int 1) (bc1 (k := .lo) (d := tl (stepsI a)) rfl (sq_len .l)) rfl rfl
  have e1 := lc_gt (c := c) (e := (.op .add (.v 2) (.k (.int 1)))) (t := (.cmp .ne (.ix (.v 1) (.v 2)) (.ix (.v 1) (.op .add (.v 2) (.k (.int 1)))))) (x := 2) (env := env2) (s := s) (own := [2]) (fun d => match d with | .int y => .int (y + 1) | _ => .non) (fun d => match d with | .int p => !decide ((stepsI a).getD p.toNat 0 = (stepsI a).getD (p.toNat + 1) 0) | _ => false) (evEs1 ln) (itV_r1 (by omega) (by omega)) (by rw [List.length_map, rngL_len]; omega) (fun d hd => by
    obtain ⟨y, hy, rfl⟩ := List.mem_map.mp hd
    obtain ⟨y0, y1⟩ := rngL_mem.mp hy
    obtain ⟨k, rfl⟩ : ∃ k : Nat, y = (k : Int) := ⟨y.toNat, by omega⟩
    have f1 : evE c (.v 1) ((wipeE env2 [2]).set 2 (some (false, .int (k : Int)))) s = .ok (.lo, tl (stepsI a)) s := rfl
    exact cmp_ok (k := .sh) (k' := .sh) (s1 := s) (sq_ix (.l (b := stepsI a)) (j := k) (by omega) f1 (k' := .sh) rfl) (sq_ix (.l (b := stepsI a)) (j := k + 1) (by omega) f1 (k' := .sh) rfl) (ne_int _ _)) (fun d hd _ => by
    obtain ⟨y, hy, rfl⟩ := List.mem_map.mp hd
    rfl)
  have q : (((rngL 0 (((stepsI a).length : Int) - 1)).map D.int).filter (fun d => match d with | .int p => !decide ((stepsI a).getD p.toNat 0 = (stepsI a).getD (p.toNat + 1) 0) | _ => false)).map (fun d => match d with | .int y => D.int (y + 1) | _ => .non) = (trn (stepsI a)).map .int := by
    unfold trn
    rw [List.filter_map, List.map_map, List.map_map]; rfl
  rw [q] at e1
  show backF _ (evSs c [_, _, .ret (.bc .tuple [_])] env s) = _
  rw [seq_one (row_ck n h rfl), seq_one b1, evSs, ret_sh (bc1 e1 rfl)]; rfl
/-- from_steps -/
theorem c_from (n : Nat) {x : Int} {l : List Int} (hx : -1000 ≤ x ∧ x ≤ 1000) (hl : l.length ≤ 11) (hs : ∀ y ∈ l, -2000 ≤ y ∧ y ≤ 2000) (s : Sg) : ev (n + 4) 7 [(.sh, .int x), (.sh, tz l)] s = if fitB (run x l) then .ok (.sh, tz (run x l)) s else ref_ s := by
  rw [op_ (fn := f7) rfl _ _ rfl]
  let c := cx (n + 3)
  let env : Ev.Env := [some (false, .int x), some (false, tz l), none, none]
  let env2 : Ev.Env := [some (false, .int x), some (false, tz l), some (true, .lst [.int x]), none]
  have r1 : ev (n + 3) 1 [(.sh, .tup [.int x])] s = .ok (.sh, .bl true) s := by
    have w := c_isrowI (P := P) (gl := gl) (sb := sb) (fuel := 100) (w := 0) (a := 0) (b := 1) (r := 1) rfl rfl rfl rfl (n + 1) (zs := [x]) (by show 1 ≤ 1; decide) (by show 1 ≤ 12; decide) s
    have q : fitB [x] = true := fitB_of ⟨by simp, by simp, fun z hz => by rw [List.mem_singleton] at hz; subst hz; exact hx⟩
    rw [q] at w
    exact w
  have t1 : evE c (.not_ (.call 1 [(.tup [(.v 0)])])) env s = .ok (.sh, .bl false) s := not_ok (b := true) (call1 (d := .tup [.int x]) (s1 := s) rfl (by rw [cc_call]; exact r1))
  have t2 : evE c (.not_ (.isi .tuple (.v 1))) env s = .ok (.sh, .bl false) s := rfl
  have t3 : evE c (.cmp .ge (.bc .len [(.v 1)]) (.g 0)) env s = .ok (.sh, .bl false) s := by
    have w := cmp_ok (c := c) (env := env) (o := .ge) (b := .g 0) (k' := .sh) (s2 := s) (y := .int 12) (bc1 (k := .sh) (e := .v 1) (env := env) (c := c) (s := s) (s1 := s) rfl (sq_len (.t (b := l)))) rfl rfl
    rw [decide_eq_false (show ¬ ((12 : Int) ≤ (l.length : Int)) by omega)] at w
    exact w
  have b1 : evS c (.lk [0] (.ifs (.or_ (.not_ (.call 1 [(.tup [(.v 0)])])) (.or_ (.not_ (.isi .tuple (.v 1))) (.cmp .ge (.bc .len [(.v 1)]) (.g 0)))) [(.rse 1 [])] [])) env s = .nx env s := by
    rw [evS]
    exact ifs0 (or2 t1 (or2 t2 t3))
  have e2 := lc_seq (c := c) (e := (.and_ (.call 0 [(.v 3)]) (.chn .le .le (.op .mul (.neg (.k (.int 2))) (.g 1)) (.v 3) (.op .mul (.k (.int 2)) (.g 1))))) (a := .v 1) (x := 3) (env := env) (s := s) (own := [3]) (k := .sh) (d0 := tz l) (l := l.map D.int) (fun d => .bl true) (.inl rfl) (by rw [List.length_map]; omega) rfl (fun d hd => by
    obtain ⟨y, hy, rfl⟩ := List.mem_map.mp hd
    let env3 := (wipeE env [3]).set 3 (some (false, .int y))
    have w0 : evE c (.call 0 [(.v 3)]) env3 s = .ok (.sh, .bl true) s := call1 (d := .int y) (s1 := s) rfl (by rw [cc_call]; exact c_whole (P := P) (gl := gl) (sb := sb) (fuel := 100) (w := 0) rfl (n + 2) (d := .int y) rfl s)
    rw [and_t w0]
    have w1 := chn_ok (c := c) (env := env3) (s := s) (o := .le) (o' := .le) (a := .op .mul (.neg (.k (.int 2))) (.g 1)) (b := .v 3) (e := .op .mul (.k (.int 2)) (.g 1)) (k := .sh) (k' := .sh) (k'' := .sh) (x := .int (-2000)) (y := .int y) (z := .int 2000) rfl rfl rfl rfl rfl
    rw [decide_eq_true (hs y hy).1, decide_eq_true (hs y hy).2] at w1
    exact w1)
  have t4 : bcD .all [.lst ((l.map D.int).map fun _ => D.bl true)] = some (.sh, .bl true) := by
    have := all_map (l.map D.int) (fun _ => true)
    rw [List.all_eq_true.mpr (fun _ _ => rfl)] at this
    exact this
  have b2 : evS c (.ifs (.not_ (.bc .all [(.lc (.and_ (.call 0 [(.v 3)]) (.chn .le .le (.op .mul (.neg (.k (.int 2))) (.g 1)) (.v 3) (.op .mul (.k (.int 2)) (.g 1)))) (.nm 3) .seq [(.v 1)] [] [3])])) [(.rse 1 [])] []) env s = .nx env s := ifs0 (not_ok (b := true) (bc1 e2 t4))
  have b3 : evS c (.lk [0] (.asg (.nm 2) (.lst [(.v 0)]))) env s = .nx env2 s := rfl
  obtain ⟨y, b4⟩ := run_loop (c := c) (s := s) (env0 := env2) (t := 3) (i := 2) (k := .seq) (ies := [(.v 1)]) (L := l) (x := x) (by omega) rfl (by decide) (by show 3 < 4; decide) (evEs1 (x := (.sh, tz l)) rfl) rfl
  have b5 : evS c (.lk [1] (.for_ (.nm 3) .seq [(.v 1)] [(.app 2 (.op .add (.ix (.v 2) (.neg (.k (.int 1)))) (.v 3)))])) env2 s = .nx [some (false, .int x), some (false, tz l), some (true, tl (run x l)), y] s := by
    rw [evS]; exact b4
  show backF _ (evSs c [_, _, _, _, .ret (.call 6 [.bc .tuple [.v 2]])] env s) = _
  rw [seq_one b1, seq_one b2, seq_one b3, seq_one b5]
  exact ret_rg (env := [some (false, .int x), some (false, tz l), some (true, tl (run x l)), y]) (by rw [run_len]; omega) (by rw [run_len]; omega) rfl
/-- part -/
def plcB (n : Nat) : D → Bool
  | .int z => decide (0 ≤ z) && decide (z < (n : Int))
  | _ => false
theorem c_plc (n : Nat) (hd : okD d = true) (s : Sg) : ev (n + 2) 3 [(.sh, tz a), (.sh, d)] s = .ok (.sh, .bl (plcB a.length d)) s := by
  rw [op_ (fn := f3) rfl _ _ rfl]
  let c := cx (n + 1)
  let env : Ev.Env := [some (false, tz a), some (false, d)]
  have w0 : evE c (.call 0 [(.v 1)]) env s = .ok (.sh, .bl (isW d)) s := call1 (d := d) (s1 := s) rfl (by rw [cc_call]; exact c_whole (P := P) (gl := gl) (sb := sb) (fuel := 100) (w := 0) rfl n hd s)
  have e : evE c (.and_ (.call 0 [(.v 1)]) (.chn .le .lt (.k (.int 0)) (.v 1) (.bc .len [(.v 0)]))) env s = .ok (.sh, .bl (plcB a.length d)) s := by
    cases d with
    | int z =>
      have w1 : evE c (.call 0 [(.v 1)]) env s = .ok (.sh, .bl true) s := w0
      rw [and_t w1]
      exact chn_ok (k := .sh) (k' := .sh) (k'' := .sh) (x := .int 0) (y := .int z) (z := .int (a.length : Int)) rfl rfl (bc1 (k := .sh) rfl (sq_len (.t (b := a)))) rfl rfl
    | _ => exact and_f w0
  show backF _ (evSs c [.ret _] env s) = _
  rw [evSs, ret_sh e]; rfl
def prtB (n : Nat) : D → D → Bool
  | .int i, .int j => (decide (0 ≤ i) && decide (i < (n : Int))) && (decide (i < j) && decide (j ≤ (n : Int)))
  | _, _ => false
theorem c_part (n : Nat) (h : Row a) {x y : D} (hx : okD x = true) (hy : okD y = true) (s : Sg) : evSs (cx (n + 3)) f13.body [some (false, tz a), some (false, x), some (false, y)] s = if prtB a.length x y then evSs (cx (n + 3)) [.ret (.sl (.v 0) [(.v 1)] [(.v 2)])] [some (false, tz a), some (false, x), some (false, y)] s else .ex ⟨1, none⟩ [some (false, tz a), some (false, x), some (false, y)] s := by
  let c := cx (n + 3)
  let env : Ev.Env := [some (false, tz a), some (false, x), some (false, y)]
  have w0 : evE c (.call 3 [(.v 0), (.v 1)]) env s = .ok (.sh, .bl (plcB a.length x)) s := call2 (d := tz a) (e := x) (s1 := s) (s2 := s) rfl rfl (by rw [cc_call]; exact c_plc (n + 1) hx s)
  have w1 : evE c (.call 0 [(.v 2)]) env s = .ok (.sh, .bl (isW y)) s := call1 (d := y) (s1 := s) rfl (by rw [cc_call]; exact c_whole (P := P) (gl := gl) (sb := sb) (fuel := 100) (w := 0) rfl (n + 2) hy s)
  have t : evE c (.or_ (.not_ (.call 3 [(.v 0), (.v 1)])) (.or_ (.not_ (.call 0 [(.v 2)])) (.not_ (.chn .lt .le (.v 1) (.v 2) (.bc .len [(.v 0)]))))) env s = .ok (.sh, .bl (!prtB a.length x y)) s := by
    cases hp : plcB a.length x with
    | false =>
      rw [hp] at w0
      have q : prtB a.length x y = false := by
        cases x <;> first | rfl | skip
        cases y <;> first | rfl | skip
        rename_i i j
        have hp : (decide (0 ≤ i) && decide (i < (a.length : Int))) = false := hp
        show ((decide (0 ≤ i) && decide (i < (a.length : Int))) && _) = false
        rw [hp]; rfl
      rw [q]
      exact or_t (not_ok w0)
    | true =>
      rw [hp] at w0
      cases x <;> first | (cases hp; done) | skip
      rename_i i
      have hp : (decide (0 ≤ i) && decide (i < (a.length : Int))) = true := hp
      cases y with
      | int j =>
        have w2 := chn_ok (c := c) (env := env) (s := s) (o := .lt) (o' := .le) (a := .v 1) (b := .v 2) (e := .bc .len [(.v 0)]) (k := .sh) (k' := .sh) (k'' := .sh) (x := .int i) (y := .int j) (z := .int (a.length : Int)) rfl rfl (bc1 (k := .sh) rfl (sq_len (.t (b := a)))) rfl rfl
        have q : prtB a.length (.int i) (.int j) = (decide (i < j) && decide (j ≤ (a.length : Int))) := by
          show ((decide (0 ≤ i) && decide (i < (a.length : Int))) && _) = _
          rw [hp]; rfl
        rw [q]
        exact or2 (not_ok w0) (or2 (not_ok w1) (not_ok w2))
      | _ =>
        exact or2 (not_ok w0) (or_t (not_ok w1))
  show evSs c [_, .ifs _ [.rse 1 []] [], .ret _] env s = _
  rw [seq_one (row_ck n h rfl)]
  cases hq : prtB a.length x y with
  | true => rw [hq] at t; rw [seq_one (ifs0 t)]; rfl
  | false => rw [hq] at t; rw [evSs, ifs_t t]; rfl
end
end Hd
set_option Elab.async false
set_option linter.all false
set_option maxRecDepth 100000
set_option maxHeartbeats 1000000
namespace Hd
open PySem PySem.Spec PyProof.Rows L2 Ev
section
variable {a zs : List Int} {s : Sg} {d : D}
/-! ### _law_ask -/
abbrev envK (k : Int) (A B C : D) : Ev.Env := [some (false, .int k), some (false, A), some (false, B), some (false, C), none]
abbrev askB : List S := [(.ifs (.cmp .lt (.v 0) (.k (.int 5))) [(.ret (.sel [5, 8, 9, 11, 12] (.v 0) [(.v 1)]))] []), (.ret (.ite (.cmp .eq (.v 0) (.k (.int 7))) (.call 13 [(.v 1), (.v 2), (.v 3)]) (.sel [10, 7] (.op .sub (.v 0) (.k (.int 5))) [(.v 1), (.v 2)])))]
section
variable {n : Nat} {k : Int} {A B C : D} {e : E} {r : Out VD}
def handB (n : Nat) (q : SR) : Out VD := backF false (((match q with
    | .ex x e s1 => evH (cx n) [(1, [(.ret (.k (.str malS)))]), (2, [(.hx 4 (.cat ⟨#[60]⟩ ⟨#[62]⟩))])] x e s1
    | r => r) : SR).seq fun e s1 => evSs (cx n) [] e s1)
theorem ask_q {q : SR} {v : Out VD} (h : evSs (cx n) askB (envK k A B C) s = q) (hv : handB n q = v) : ev (n + 1) 20 [(.sh, .int k), (.sh, A), (.sh, B), (.sh, C)] s = v := by
  have tr : ev (n + 1) 20 [(.sh, .int k), (.sh, A), (.sh, B), (.sh, C)] s = backF false (evSs (cx n) f20.body (envK k A B C) s) := op_ (fn := f20) rfl _ _ rfl
  rw [tr, ← hv, ← h]; rfl
theorem ask_ok (hb : evSs (cx n) askB (envK k A B C) s = evSs (cx n) [.ret e] (envK k A B C) s) (he : evE (cx n) e (envK k A B C) s = .ok (.sh, d) s) : ev (n + 1) 20 [(.sh, .int k), (.sh, A), (.sh, B), (.sh, C)] s = .ok (.sh, d) s := ask_q (q := .rt (.sh, d) s) (by rw [hb, evSs, ret_sh he]; rfl) rfl
theorem ask_mal (hb : evSs (cx n) askB (envK k A B C) s = evSs (cx n) [.ret e] (envK k A B C) s) (he : evE (cx n) e (envK k A B C) s = mal s) : ev (n + 1) 20 [(.sh, .int k), (.sh, A), (.sh, B), (.sh, C)] s = .ok (.sh, .str malS) s := ask_q (q := .ex ⟨1, none⟩ (envK k A B C) s) (by rw [hb, evSs, evS, he]; rfl) rfl
theorem ask_ref (hb : evSs (cx n) askB (envK k A B C) s = evSs (cx n) [.ret e] (envK k A B C) s) (he : evE (cx n) e (envK k A B C) s = ref_ s) : ev (n + 1) 20 [(.sh, .int k), (.sh, A), (.sh, B), (.sh, C)] s = .ok (.sh, .str lgS) s := ask_q (q := .ex ⟨2, some (.str large)⟩ (envK k A B C) s) (by rw [hb, evSs, evS, he]; rfl) (by
  have h : hxD sb ⟨2, some (.str large)⟩ (.cat ⟨#[60]⟩ ⟨#[62]⟩) = some (.str lgS) := by
    show (if (1 : Nat) + 5 ≤ sizeLine ∧ (6 : Nat) + 1 ≤ sizeLine then some (Ev.D.str lgS) else none) = _
    rw [if_pos ⟨sz1000 (by decide), sz1000 (by decide)⟩]
  show backF false ((hxR sb (.cat ⟨#[60]⟩ ⟨#[62]⟩) ⟨2, some (.str large)⟩ s).seq _) = _
  unfold hxR
  rw [h]; rfl)
def fitsD (zs : List Int) : D := if fitB zs then tz zs else .str lgS
theorem ask_fit (hb : evSs (cx n) askB (envK k A B C) s = evSs (cx n) [.ret e] (envK k A B C) s) (he : evE (cx n) e (envK k A B C) s = if fitB zs then .ok (.sh, tz zs) s else ref_ s) : ev (n + 1) 20 [(.sh, .int k), (.sh, A), (.sh, B), (.sh, C)] s = .ok (.sh, fitsD zs) s := by
  unfold fitsD
  cases hf : fitB zs with
  | true => rw [hf] at he; exact ask_ok hb he
  | false => rw [hf] at he; exact ask_ref hb he
abbrev sA : E := .sel [5, 8, 9, 11, 12] (.v 0) [(.v 1)]
abbrev sB : E := .ite (.cmp .eq (.v 0) (.k (.int 7))) (.call 13 [(.v 1), (.v 2), (.v 3)]) (.sel [10, 7] (.op .sub (.v 0) (.k (.int 5))) [(.v 1), (.v 2)])
theorem hA (n : Nat) (k : Nat) (hk : k < 5) (A B C : D) (s : Sg) : evSs (cx n) askB (envK (k : Int) A B C) s = evSs (cx n) [.ret sA] (envK (k : Int) A B C) s := match k, hk with
  | 0, _ => hbq rfl
  | 1, _ => hbq rfl
  | 2, _ => hbq rfl
  | 3, _ => hbq rfl
  | 4, _ => hbq rfl
theorem hB (n : Nat) (k : Nat) (hk : 5 ≤ k) (hk2 : k ≤ 7) (A B C : D) (s : Sg) : evSs (cx n) askB (envK (k : Int) A B C) s = evSs (cx n) [.ret sB] (envK (k : Int) A B C) s := match k, hk, hk2 with
  | 5, _, _ => rfl
  | 6, _, _ => rfl
  | 7, _, _ => rfl
theorem eA {k f : Nat} (hf : L2.atI [5, 8, 9, 11, 12] (k : Int) = some f) (h : ev n f [(.sh, A)] s = r) : evE (cx n) sA (envK (k : Int) A B C) s = r := sel1 (s1 := s) (s2 := s) rfl hf rfl (by rw [cc_call]; exact h)
theorem eB5 (h : ev n 10 [(.sh, A), (.sh, B)] s = r) : evE (cx n) sB (envK ((5 : Nat) : Int) A B C) s = r := by
  rw [sB, ite_f rfl]
  exact sel2 (k := 0) (s1 := s) (s2 := s) (s3 := s) rfl rfl rfl rfl (by rw [cc_call]; exact h)
theorem eB6 (h : ev n 7 [(.sh, A), (.sh, B)] s = r) : evE (cx n) sB (envK ((6 : Nat) : Int) A B C) s = r := by
  rw [sB, ite_f rfl]
  exact sel2 (k := 1) (s1 := s) (s2 := s) (s3 := s) rfl rfl rfl rfl (by rw [cc_call]; exact h)
theorem eB7 (h : ev n 13 [(.sh, A), (.sh, B), (.sh, C)] s = r) : evE (cx n) sB (envK ((7 : Nat) : Int) A B C) s = r := by
  rw [sB, ite_t rfl]
  exact call3 (s1 := s) (s2 := s) (s3 := s) rfl rfl rfl (by rw [cc_call]; exact h)
end
abbrev ask (n : Nat) (k : Nat) (A B C : D) (s : Sg) : Out VD := ev (n + 5) 20 [(.sh, .int (k : Int)), (.sh, A), (.sh, B), (.sh, C)] s
theorem a0 (n : Nat) (h : Row a) (B C : D) (s : Sg) : ask n 0 (tz a) B C s = .ok (.sh, tz (stepsI a)) s := ask_ok (n := n + 4) (hA _ 0 (by decide) _ _ _ _) (eA (k := 0) (f := 5) rfl (c_st n h s))
theorem a1 (n : Nat) (h : Row a) (B C : D) (s : Sg) : ask n 1 (tz a) B C s = .ok (.sh, tz a.reverse) s := ask_ok (n := n + 4) (hA _ 1 (by decide) _ _ _ _) (eA (k := 1) (f := 8) rfl (c_back n h s))
theorem a2 (n : Nat) (h : Row a) (B C : D) (s : Sg) : ask n 2 (tz a) B C s = .ok (.sh, tz (a.map fun x => -x)) s := ask_ok (n := n + 4) (hA _ 2 (by decide) _ _ _ _) (eA (k := 2) (f := 9) rfl (c_turn n h s))
theorem a3 (n : Nat) (h : Row a) (B C : D) (s : Sg) : ask n 3 (tz a) B C s = .ok (.sh, fitsD (run (a.getD 0 0) (a.drop 1))) s := ask_fit (n := n + 4) (hA _ 3 (by decide) _ _ _ _) (eA (k := 3) (f := 11) rfl (c_run n h s))
theorem a4 (n : Nat) (h : Row a) (B C : D) (s : Sg) : ask n 4 (tz a) B C s = .ok (.sh, tz (trn (stepsI a))) s := ask_ok (n := n + 4) (hA _ 4 (by decide) _ _ _ _) (eA (k := 4) (f := 12) rfl (c_trn n h s))
theorem a5 (n : Nat) (h : Row a) (t : Int) (C : D) (s : Sg) : ask n 5 (tz a) (.int t) C s = .ok (.sh, fitsD (a.map (· + t))) s := ask_fit (n := n + 4) (hB _ 5 (by decide) (by decide) _ _ _ _) (eB5 (c_lift n h t s))
theorem a6 (n : Nat) {x : Int} {l : List Int} (hx : -1000 ≤ x ∧ x ≤ 1000) (hl : l.length ≤ 11) (hs : ∀ y ∈ l, -2000 ≤ y ∧ y ≤ 2000) (C : D) (s : Sg) : ask n 6 (.int x) (tz l) C s = .ok (.sh, fitsD (run x l)) s := ask_fit (n := n + 4) (hB _ 6 (by decide) (by decide) _ _ _ _) (eB6 (c_from n hx hl hs s))
theorem a7 (n : Nat) (h : Row a) {i j : Nat} (hi : i < j) (hj : j ≤ a.length) (s : Sg) : ask n 7 (tz a) (.int (i : Int)) (.int (j : Int)) s = .ok (.sh, tz ((a.drop i).take (j - i))) s := ask_ok (n := n + 4) (hB _ 7 (by decide) (by decide) _ _ _ _) (eB7 (by
  rw [op_ (fn := f13) rfl _ _ rfl]
  have w := c_part (a := a) n h (x := .int (i : Int)) (y := .int (j : Int)) rfl rfl s
  have q : prtB a.length (.int (i : Int)) (.int (j : Int)) = true := by
    show ((decide ((0 : Int) ≤ (i : Int)) && decide ((i : Int) < (a.length : Int))) && (decide ((i : Int) < (j : Int)) && decide ((j : Int) ≤ (a.length : Int)))) = true
    rw [decide_eq_true (by omega), decide_eq_true (by omega), decide_eq_true (by omega), decide_eq_true (by omega)]; rfl
  rw [q, if_pos rfl] at w
  show backF _ (evSs (cx (n + 3)) f13.body [some (false, tz a), some (false, .int (i : Int)), some (false, .int (j : Int))] s) = _
  rw [w]
  show Out.ok (Kd.sh, D.tup (Ev.cutD (a.map .int) (some (i : Int)) (some (j : Int)))) s = Out.ok (Kd.sh, D.tup (((a.drop i).take (j - i)).map .int)) s
  have hc : Ev.cutD (a.map D.int) (some (i : Int)) (some (j : Int)) = ((a.map D.int).drop i).take (j - i) := by
    unfold Ev.cutD
    have h1 : HT.sIx (a.map D.int).length 0 (some (i : Int)) = i := by
      rw [List.length_map, HT.sIx_nat]; omega
    have h2 : HT.sIx (a.map D.int).length (a.map D.int).length (some (j : Int)) = j := by
      rw [List.length_map, HT.sIx_nat]; omega
    rw [h1, h2]
  rw [hc, List.map_take, List.map_drop]))
/-! ### bad values -/
theorem fst_bad (n : Nat) (hd : okR d = true) (hr : rowD d = false) {rest : List S} {env : Ev.Env} (h0 : env[0]? = some (some (false, d))) : backF false (evSs (cx (n + 3)) (.ex (.call 2 [.v 0]) :: rest) env s) = mal s := by
  rw [rs_seq (row_bad n hd hr h0)]; rfl
theorem m_row (n : Nat) {k : Nat} (hk : k ∈ [0, 1, 2, 3, 4, 5, 7]) (hd : okR d = true) (hr : rowD d = false) (s : Sg) : ask n k d (.int 0) (.int 1) s = .ok (.sh, .str malS) s := by
  have f1 : ∀ (f : Nat) (fn : Fn) (r : List S), P[f]? = some fn → fn.np = 1 → fn.body = .ex (.call 2 [.v 0]) :: r → ev (n + 4) f [(.sh, d)] s = mal s := fun f fn r h1 h2 h3 => by
    rw [op_ (fn := fn) h1 _ _ (by rw [h2]; rfl), h3]
    exact fst_bad n hd hr rfl
  have g : ∀ (k f : Nat) (fn : Fn) (r : List S), k < 5 → L2.atI [5, 8, 9, 11, 12] (k : Int) = some f → P[f]? = some fn → fn.np = 1 → fn.body = .ex (.call 2 [.v 0]) :: r → ask n k d (.int 0) (.int 1) s = .ok (.sh, .str malS) s := fun k f fn r h0 hf h1 h2 h3 => ask_mal (n := n + 4) (hA _ k h0 _ _ _ _) (eA hf (f1 f fn r h1 h2 h3))
  simp only [List.mem_cons, List.not_mem_nil, or_false] at hk
  rcases hk with rfl | rfl | rfl | rfl | rfl | rfl | rfl
  · exact g 0 5 f5 _ (by decide) rfl rfl rfl rfl
  · exact g 1 8 f8 _ (by decide) rfl rfl rfl rfl
  · exact g 2 9 f9 _ (by decide) rfl rfl rfl rfl
  · exact g 3 11 f11 _ (by decide) rfl rfl rfl rfl
  · exact g 4 12 f12 _ (by decide) rfl rfl rfl rfl
  · refine ask_mal (n := n + 4) (hB _ 5 (by decide) (by decide) _ _ _ _) (eB5 ?_)
    rw [op_ (fn := f10) rfl _ _ rfl]
    exact fst_bad n hd hr rfl
  · refine ask_mal (n := n + 4) (hB _ 7 (by decide) (by decide) _ _ _ _) (eB7 ?_)
    rw [op_ (fn := f13) rfl _ _ rfl]
    exact fst_bad n hd hr rfl
theorem m_lift (n : Nat) (h : Row a) (hd : okD d = true) (hw : isW d = false) (C : D) (s : Sg) : ask n 5 (tz a) d C s = .ok (.sh, .str malS) s := ask_mal (n := n + 4) (hB _ 5 (by decide) (by decide) _ _ _ _) (eB5 (by
  rw [op_ (fn := f10) rfl _ _ rfl]
  let env : Ev.Env := [some (false, tz a), some (false, d), none]
  have w0 : evE (cx (n + 3)) (.call 0 [(.v 1)]) env s = .ok (.sh, .bl (isW d)) s := call1 (d := d) (s1 := s) rfl (by rw [cc_call]; exact c_whole (P := P) (gl := gl) (sb := sb) (fuel := 100) (w := 0) rfl (n + 2) hd s)
  rw [hw] at w0
  have b : evS (cx (n + 3)) (.ifs (.not_ (.call 0 [(.v 1)])) [(.rse 1 [])] []) env s = .ex ⟨1, none⟩ env s := by rw [ifs_t (not_ok w0)]; rfl
  show backF _ (evSs (cx (n + 3)) (_ :: .ifs (.not_ (.call 0 [(.v 1)])) [(.rse 1 [])] [] :: _) env s) = _
  rw [seq_one (row_ck n h rfl), rs_seq b]; rfl))
theorem m_part (n : Nat) (h : Row a) {x y : D} (hx : okD x = true) (hy : okD y = true) (hp : prtB a.length x y = false) (s : Sg) : ask n 7 (tz a) x y s = .ok (.sh, .str malS) s := ask_mal (n := n + 4) (hB _ 7 (by decide) (by decide) _ _ _ _) (eB7 (by
  rw [op_ (fn := f13) rfl _ _ rfl]
  have w := c_part (a := a) n h hx hy s
  rw [hp, if_neg Bool.false_ne_true] at w
  show backF _ (evSs (cx (n + 3)) f13.body [some (false, tz a), some (false, x), some (false, y)] s) = _
  rw [w]; rfl))
theorem m_from (n : Nat) {x y : D} (h : ev (n + 4) 7 [(.sh, x), (.sh, y)] s = mal s) (C : D) : ask n 6 x y C s = .ok (.sh, .str malS) s := ask_mal (n := n + 4) (hB _ 6 (by decide) (by decide) _ _ _ _) (eB6 h)
/-! ### _law_bent -/
def bentI (z : Int) : List D := [.int 0, .int 1, .int (z + 1), .int (z - 1), .bl (decide (z = 1)), .non, .str ⟨#[48]⟩, .tup [.int z], .int 12]
theorem bent1 (n : Nat) (hs : Vd s) (z : Int) : ∃ d s', ev (n + 2) 19 [(.sh, .drw), (.sh, .int z)] s = .ok (.sh, d) s' ∧ Vd s' ∧ okD d = true := by
  obtain ⟨x, s1, q1, v1, x0, x1⟩ := (tk n).at_ hs (m := 9) (by omega) (by omega)
  obtain ⟨d, g1, g2⟩ := atI_mem (l := bentI z) x0 (by show x < 9; omega)
  let c := cx (n + 1)
  let env : Ev.Env := [some (false, .drw), some (false, .int z), none]
  have e2 : evE c (.lst [(.k (.int 0)), (.k (.int 1)), (.op .add (.v 1) (.k (.int 1))), (.op .sub (.v 1) (.k (.int 1))), (.cmp .eq (.v 1) (.k (.int 1))), (.k .non), (.k (.str ⟨#[48]⟩)), (.tup [(.v 1)]), (.k (.int 12))]) env s = .ok (.fr, .lst (bentI z)) s := rfl
  have e3 := ix_ok (c := c) (k := .fr) (k' := .sh) (.inr rfl) e2 (call2 (i := 15) (c := c) (a := .v 0) (b := .k (.int 9)) (env := env) (s := s) (s1 := s) (s2 := s) rfl rfl (by rw [cc_call]; exact q1)) g1
  have e4 := ite_t (c := c) (env := env) (s := s) (a := .isi .int (.v 1)) (d := .k (.int 0)) rfl ▸ e3
  refine ⟨d, s1, ?_, v1, by simp only [bentI, List.mem_cons, List.not_mem_nil, or_false] at g2; rcases g2 with rfl | rfl | rfl | rfl | rfl | rfl | rfl | rfl | rfl <;> rfl⟩
  rw [op_ (fn := f19) rfl _ _ rfl]
  show backF _ (evSs c [.ifs _ _ [], .ifs _ _ [], .ifs _ _ [], .lk [1] (.ret (.ite _ _ _))] env s) = _
  rw [seq_one (ifs0 (and_f rfl)), seq_one (ifs0 rfl), seq_one (ifs0 rfl), evSs, evS]
  have u : Ev.unown env [1] = env := rfl
  rw [u, ret_sh (show evE c (.ite (.isi .int (.v 1)) _ _) env s = _ by rw [ite_t rfl]; exact e3)]; rfl
theorem okD_all {l : List D} (h : l.all okD = true) {m : List D} (hm : ∀ d ∈ m, d ∈ l) : m.all okD = true := List.all_eq_true.mpr fun d hd => List.all_eq_true.mp h d (hm d hd)
theorem bent (n : Nat) (hs : Vd s) (h : Row a) : ∃ d s', ev (n + 3) 19 [(.sh, .drw), (.sh, tz a)] s = .ok (.sh, d) s' ∧ Vd s' ∧ okR d = true := by
  have l1 := h.1
  have l2 := h.2.1
  have ok := okR_tz a
  have ok : (a.map D.int).all okD = true := ok
  let c := cx (n + 2)
  let env : Ev.Env := [some (false, .drw), some (false, tz a), none]
  obtain ⟨x, s1, q1, v1, x0, x1⟩ := (tk (n + 1)).at_ hs (m := 4) (by omega) (by omega)
  have t1 : evE c (.cmp .gt (.bc .len [(.v 1)]) (.k (.int 0))) env s = .ok (.sh, .bl true) s := by
    have w := cmp_ok (c := c) (env := env) (o := .gt) (b := .k (.int 0)) (k' := .sh) (s2 := s) (y := .int 0) (bc1 (k := .sh) (e := .v 1) (env := env) (c := c) (s := s) (s1 := s) rfl (sq_len (.t (b := a)))) rfl rfl
    rw [decide_eq_true (show (0 : Int) < (a.length : Int) by omega)] at w
    exact w
  have t2 : evE c (.cmp .gt (.call 15 [(.v 0), (.k (.int 4))]) (.k (.int 0))) env s = .ok (.sh, .bl (decide (0 < x))) s1 := cmp_ok (k' := .sh) (y := .int 0) (call2 (s1 := s) (s2 := s) rfl rfl (by rw [cc_call]; exact q1)) rfl rfl
  have t3 : evE c (.and_ (.isi .tuple (.v 1)) (.and_ (.cmp .gt (.bc .len [(.v 1)]) (.k (.int 0))) (.cmp .gt (.call 15 [(.v 0), (.k (.int 4))]) (.k (.int 0))))) env s = .ok (.sh, .bl (decide (0 < x))) s1 := by
    rw [and_t (show evE c (.isi .tuple (.v 1)) env s = .ok (.sh, .bl true) s from rfl), and_t t1]; exact t2
  rw [op_ (fn := f19) rfl _ _ rfl]
  by_cases hx : 0 < x
  · rw [decide_eq_true hx] at t3
    obtain ⟨y, s2, q2, v2, y0, y1⟩ := (tk (n + 1)).at_ v1 (m := (a.length : Int)) (by omega) (by omega)
    obtain ⟨k, rfl⟩ : ∃ k : Nat, y = (k : Int) := ⟨y.toNat, by omega⟩
    let env2 : Ev.Env := [some (false, .drw), some (false, tz a), some (false, .int (k : Int))]
    have b1 : evS c (.asg (.nm 2) (.call 15 [(.v 0), (.bc .len [(.v 1)])])) env s1 = .nx env2 s2 := asg_sh (call2 (s1 := s1) (s2 := s1) rfl (bc1 (k := .sh) rfl (sq_len (.t (b := a)))) (by rw [cc_call]; exact q2))
    obtain ⟨d, s3, q3, v3, od⟩ := bent1 n v2 (a.getD k 0)
    have e1 : evE c (.sl (.v 1) [] [(.v 2)]) env2 s2 = .ok (.sh, .tup (Ev.cutD (a.map .int) none (some (k : Int)))) s2 := sl_hi (k := .sh) (k' := .sh) rfl rfl
    have e2 : evE c (.tup [(.call 19 [(.v 0), (.ix (.v 1) (.v 2))])]) env2 s2 = .ok (.sh, .tup [d]) s3 := tup1 (call2 (s1 := s2) (s2 := s2) rfl (sq_ix (.t (b := a)) (j := k) (k := .sh) (k' := .sh) (by omega) rfl rfl) (by rw [cc_call]; exact q3))
    have e3 : evE c (.sl (.v 1) [(.op .add (.v 2) (.k (.int 1)))] []) env2 s3 = .ok (.sh, .tup (Ev.cutD (a.map .int) (some ((k : Int) + 1)) none)) s3 := sl_lo (k := .sh) (k' := .sh) rfl rfl
    have c1 := cut_len (a.map D.int) none (some (k : Int))
    have c2 := cut_len (a.map D.int) (some ((k : Int) + 1)) none
    rw [List.length_map] at c1 c2
    have e4 := op_ok (o := .add) e1 e2 (v := (.sh, .tup (Ev.cutD (a.map .int) none (some (k : Int)) ++ [d]))) (by
      show (if (Ev.cutD (a.map D.int) none (some (k : Int))).length + 1 ≤ sizeLine then some (Kd.sh, D.tup (Ev.cutD (a.map .int) none (some (k : Int)) ++ [d])) else none) = _
      rw [if_pos (sz1000 (by omega))])
    have e5 := op_ok (o := .add) e4 e3 (v := (.sh, .tup (Ev.cutD (a.map .int) none (some (k : Int)) ++ [d] ++ Ev.cutD (a.map .int) (some ((k : Int) + 1)) none))) (by
      show (if (Ev.cutD (a.map D.int) none (some (k : Int)) ++ [d]).length + (Ev.cutD (a.map D.int) (some ((k : Int) + 1)) none).length ≤ sizeLine then some (Kd.sh, D.tup (Ev.cutD (a.map .int) none (some (k : Int)) ++ [d] ++ Ev.cutD (a.map .int) (some ((k : Int) + 1)) none)) else none) = _
      rw [if_pos (sz1000 (by rw [List.length_append]; show _ + 1 + _ ≤ 1000; omega))])
    refine ⟨.tup (Ev.cutD (a.map .int) none (some (k : Int)) ++ [d] ++ Ev.cutD (a.map .int) (some ((k : Int) + 1)) none), s3, ?_, v3, ?_⟩
    · show backF _ (evSs c (.ifs _ [_, .ret _] [] :: _) env s) = _
      have b2 : evSs c [.asg (.nm 2) (.call 15 [(.v 0), (.bc .len [(.v 1)])]), .ret (.op .add (.op .add (.sl (.v 1) [] [(.v 2)]) (.tup [(.call 19 [(.v 0), (.ix (.v 1) (.v 2))])])) (.sl (.v 1) [(.op .add (.v 2) (.k (.int 1)))] []))] env s1 = .rt (.sh, .tup (Ev.cutD (a.map .int) none (some (k : Int)) ++ [d] ++ Ev.cutD (a.map .int) (some ((k : Int) + 1)) none)) s3 := by
        rw [seq_one b1, evSs, ret_sh e5]; rfl
      rw [evSs, ifs_t t3, b2]; rfl
    · show (Ev.cutD (a.map D.int) none (some (k : Int)) ++ [d] ++ Ev.cutD (a.map D.int) (some ((k : Int) + 1)) none).all okD = true
      rw [List.all_append, List.all_append, okD_all ok fun d hd => cut_mem hd, okD_all ok fun d hd => cut_mem hd, List.all_cons, od]; rfl
  · rw [decide_eq_false hx] at t3
    obtain ⟨y, s2, q2, v2, y0, y1⟩ := (tk (n + 1)).at_ v1 (m := 6) (by omega) (by omega)
    let L : List D := [tl a, .tup (a.map .int ++ [.int 0]), .tup (Ev.cutD (a.map .int) none (some (-1))), .tup (a.map D.int).reverse, .non, .tup []]
    obtain ⟨d, g1, g2⟩ := atI_mem (l := L) y0 (by show y < 6; omega)
    have p1 : evE c (.op .add (.v 1) (.tup [(.k (.int 0))])) env s1 = .ok (.sh, .tup (a.map .int ++ [.int 0])) s1 := op_ok (k := .sh) (k' := .sh) (s1 := s1) (x := tz a) (y := .tup [.int 0]) rfl rfl (by
      show (if (a.map D.int).length + 1 ≤ sizeLine then some (Kd.sh, D.tup (a.map D.int ++ [.int 0])) else none) = _
      rw [if_pos (by rw [List.length_map]; exact sz1000 (by omega))])
    have p2 : evE c (.sl (.v 1) [] [(.neg (.k (.int 1)))]) env s1 = .ok (.sh, .tup (Ev.cutD (a.map .int) none (some (-1)))) s1 := sl_hi (k := .sh) (k' := .sh) rfl rfl
    have e2 : evE c (.lst [(.bc .list [(.v 1)]), (.op .add (.v 1) (.tup [(.k (.int 0))])), (.sl (.v 1) [] [(.neg (.k (.int 1)))]), (.rev (.v 1)), (.k .non), (.tup [])]) env s1 = .ok (.fr, .lst L) s1 := by
      rw [evE, evEs, bind_ok (show evE c (.bc .list [(.v 1)]) env s1 = .ok (.fr, tl a) s1 from rfl), evEs, bind_ok p1, evEs, bind_ok p2]; rfl
    have e3 := ix_ok (c := c) (k := .fr) (k' := .sh) (.inr rfl) e2 (call2 (i := 15) (c := c) (a := .v 0) (b := .k (.int 6)) (env := env) (s := s1) (s1 := s1) (s2 := s1) rfl rfl (by rw [cc_call]; exact q2)) g1
    refine ⟨d, s2, ?_, v2, ?_⟩
    · show backF _ (evSs c (.ifs _ _ [] :: .ifs _ [.ret _] [] :: _) env s) = _
      have b2 : evSs c [.ret (.ix (.lst [(.bc .list [(.v 1)]), (.op .add (.v 1) (.tup [(.k (.int 0))])), (.sl (.v 1) [] [(.neg (.k (.int 1)))]), (.rev (.v 1)), (.k .non), (.tup [])]) (.call 15 [(.v 0), (.k (.int 6))]))] env s1 = .rt (.sh, d) s2 := by rw [evSs, ret_sh e3]; rfl
      rw [seq_one (ifs0 t3), evSs, ifs_t (show evE c (.isi .tuple (.v 1)) env s1 = .ok (.sh, .bl true) s1 from rfl), b2]; rfl
    · simp only [L, List.mem_cons, List.not_mem_nil, or_false] at g2
      rcases g2 with rfl | rfl | rfl | rfl | rfl | rfl
      · rfl
      · show (a.map D.int ++ [D.int 0]).all okD = true
        rw [List.all_append, ok]; rfl
      · exact okD_all ok fun d hd => cut_mem hd
      · exact okD_all ok fun d hd => List.mem_reverse.mp hd
      · rfl
      · rfl
end
end Hd
set_option Elab.async false
set_option linter.all false
set_option maxRecDepth 100000
set_option maxHeartbeats 1000000
namespace Hd
open PySem PySem.Spec PyProof.Rows L2 Ev
structure Vs where
  x2 : Option (Bool × D)
  x3 : Option (Bool × D)
  x4 : Option (Bool × D)
  x5 : Option (Bool × D)
  x6 : Option (Bool × D)
  x7 : Option (Bool × D)
  x8 : Option (Bool × D)
  x9 : Option (Bool × D)
  x10 : Option (Bool × D)
  x11 : Option (Bool × D)
  x12 : Option (Bool × D)
  x13 : Option (Bool × D)
def envA (ns : List Int) (v : Vs) : Ev.Env := [some (false, .scr ns), some (false, .drw), v.x2, v.x3, v.x4, v.x5, v.x6, v.x7, v.x8, v.x9, v.x10, v.x11, v.x12, v.x13, none, none, none, none, none, none]
def Vs.none : Vs := ⟨Option.none, Option.none, Option.none, Option.none, Option.none, Option.none, Option.none, Option.none, Option.none, Option.none, Option.none, Option.none⟩
section
variable {ns a zs : List Int} {v : Vs} {s : Sg} {d : D}
/-- a list drawn, with a length that is drawn -/
theorem lc_drawnS {c : Cc} {env : Ev.Env} {s s1 : Sg} {e r : E} {x : Nat} {own : List Nat} {m : Nat} (Q : Int → Prop) (hm : m ≤ 1000) (hr : evE c r env s = .ok (.sh, .int (m : Int)) s1) (hs : Vd s1) (h : ∀ (d : D) (s : Sg), Vd s → ∃ z s', evE c e ((wipeE env own).set x (some (false, d))) s = .ok (.sh, .int z) s' ∧ Vd s' ∧ Q z) :
    ∃ (w : List Int) (s' : Sg), evE c (.lc e (.nm x) .rg1 [r] [] own) env s = .ok (.fr, .lst (w.map .int)) s' ∧ Vd s' ∧ w.length = m ∧ ∀ z ∈ w, Q z := by
  obtain ⟨y, s2, e1, v1, l, rfl, hl, hq⟩ := lc_turn (c := c) (elt := e) (i := x) (k := .rg1) (own := own) (env := env) (ies := [r]) (xs := [(.sh, .int (m : Int))]) (R := fun _ y => ∃ z, y = .int z ∧ Q z) (items := rngI 0 (m : Int)) (s := s) (s1 := s1) (evEs1 hr) hs (itV_rg1 hm) (fun d _ s hv => by
    obtain ⟨z, s2, e2, v2, q⟩ := h d s hv
    exact ⟨_, s2, e2, v2, .int z, rfl, z, rfl, q⟩) (by rw [rngI_len]; exact sz1000 (by omega))
  rw [rngI_len] at hl
  have hall : ∀ y ∈ l, ∃ z, y = .int z ∧ Q z := fun y hy => by
    obtain ⟨i, hi, rfl⟩ := List.getElem_of_mem hy
    have hi2 : i < (rngI 0 (m : Int)).length := by rw [rngI_len]; omega
    exact hq i _ _ (List.getElem?_eq_getElem hi2) (List.getElem?_eq_getElem hi)
  obtain ⟨w, rfl⟩ := ints_of (l := l) fun y hy => by
    obtain ⟨z, e, _⟩ := hall y hy
    exact ⟨z, e⟩
  refine ⟨w, s2, e1, v1, by rw [List.length_map] at hl; omega, fun z hz => ?_⟩
  obtain ⟨z', e, q⟩ := hall _ (List.mem_map_of_mem hz)
  injection e with e
  rw [e]; exact q
structure TR (a : List Int) (v : Vs) : Prop where
  h : Row a
  x2 : v.x2 = some (false, tz a)
  x3 : v.x3 = some (false, .int (a.length : Int))
theorem g2_ (t : TR a v) {c : Cc} {env : Ev.Env} (h : env[2]? = some v.x2) : evE c (.v 2) env s = .ok (.sh, tz a) s := by rw [t.x2] at h; simp [evSs, evS, evE, evEs, evTs, evT, Out.bind, Out.sr, lift, SR.seq, ixV, truD, cmD, opD, plainD, eqD, setS, setV, keep, bcD, dat, ixD, optS, asgV, asgVs, asgD, asgDs, backF, Ev.lent, Ev.leaves, testsD, keeps, flatD, inD, itV, itW, isLo, isSeq, itD, owned, Ev.unown, mixed, isFr, Ev.settle, oneI, slD, isiD, augV, flatAt, noEx, h]
theorem g3_ (t : TR a v) {c : Cc} {env : Ev.Env} (h : env[3]? = some v.x3) : evE c (.v 3) env s = .ok (.sh, .int (a.length : Int)) s := by rw [t.x3] at h; simp [evSs, evS, evE, evEs, evTs, evT, Out.bind, Out.sr, lift, SR.seq, ixV, truD, cmD, opD, plainD, eqD, setS, setV, keep, bcD, dat, ixD, optS, asgV, asgVs, asgD, asgDs, backF, Ev.lent, Ev.leaves, testsD, keeps, flatD, inD, itV, itW, isLo, isSeq, itD, owned, Ev.unown, mixed, isFr, Ev.settle, oneI, slD, isiD, augV, flatAt, noEx, h]
theorem ne_tz (l : List Int) : cmD .ne (tz l) (tz l) = some false := ne_same (show plainD 60 (tz l) = true from pl_ints 59 l) (eq_ints l)
theorem ne_fits (l : List Int) : cmD .ne (fitsD l) (fitsD l) = some false := by
  unfold fitsD
  cases fitB l
  · exact ne_same rfl (by simp [eqD])
  · exact ne_tz l
theorem c_fits (n : Nat) (h1 : 1 ≤ zs.length) (h2 : zs.length ≤ 12) (s : Sg) : ev (n + 2) 21 [(.sh, tz zs)] s = .ok (.sh, fitsD zs) s := by
  rw [op_ (fn := f21) rfl _ _ rfl]
  let env : Ev.Env := [some (false, tz zs)]
  have w := c_lisrow (P := P) (gl := gl) (sb := sb) (fuel := 100) (j := 18) rfl n (okR_tz zs) s
  rw [rowD_ints h1 h2] at w
  have e : evE (cx (n + 1)) (.call 18 [(.v 0)]) env s = .ok (.sh, .bl (fitB zs)) s := call1 (d := tz zs) (s1 := s) rfl (by rw [cc_call]; exact w)
  show backF _ (evSs (cx (n + 1)) [.ret (.ite _ (.v 0) _)] env s) = _
  unfold fitsD
  cases hf : fitB zs with
  | true => rw [hf] at e; rw [evSs, evS, ite_t e]; rfl
  | false => rw [hf] at e; rw [evSs, evS, ite_f e]; rfl
def R0 : S := (.asg (.nm 2) (.call 17 [(.v 1), (.k (.int 12))]))
theorem R0_ok (n : Nat) (hs : Vd s) : ∃ (a : List Int) (s' : Sg), evS (cx (n + 2)) R0 (envA ns v) s = .nx (envA ns { v with x2 := some (false, tz a) }) s' ∧ Vd s' ∧ Row a := by
  obtain ⟨x, s1, e1, v1, p, rfl, l1, l2, l3⟩ := row_call (P := P) (gl := gl) (sb := sb) (fuel := 100) (n := n) (t := 15) (i := 17) rfl rfl hs (most := 12) (by decide) (by decide)
  exact ⟨p, s1, asg_sh (call2 (s1 := s) (s2 := s) rfl rfl (by rw [cc_call]; exact e1)), v1, l1, by omega, l3⟩
def R1 : S := (.asg (.nm 3) (.bc .len [(.v 2)]))
theorem R1_ok (c : Cc) (h2 : v.x2 = some (false, tz a)) : evS c R1 (envA ns v) s = .nx (envA ns { v with x3 := some (false, .int (a.length : Int)) }) s := asg_sh (bc1 (k := .sh) (d := tz a) (by simp [evSs, evS, evE, evEs, evTs, evT, Out.bind, Out.sr, lift, SR.seq, ixV, truD, cmD, opD, plainD, eqD, setS, setV, keep, bcD, dat, ixD, optS, asgV, asgVs, asgD, asgDs, backF, Ev.lent, Ev.leaves, testsD, keeps, flatD, inD, itV, itW, isLo, isSeq, itD, owned, Ev.unown, mixed, isFr, Ev.settle, oneI, slD, isiD, augV, flatAt, noEx, envA, h2]) (sq_len .t))
def R2 : S := (.ifs (.or_ (.cmp .isnt (.call 1 [(.v 2)]) (.k (.bl true))) (.not_ (.call 18 [(.v 2)]))) [(.ret (.k (.bl false)))] [])
theorem R2_ok (n : Nat) (t : TR a v) : evS (cx (n + 2)) R2 (envA ns v) s = .nx (envA ns v) s := by
  have w1 : ev (n + 2) 1 [(.sh, tz a)] s = .ok (.sh, .bl true) s := by
    have w := c_isrowG (P := P) (gl := gl) (sb := sb) (fuel := 100) (w := 0) (a := 0) (b := 1) (r := 1) rfl rfl rfl rfl n (okR_tz a) s
    rw [row_rowD t.h] at w
    exact w
  have w2 : ev (n + 2) 18 [(.sh, tz a)] s = .ok (.sh, .bl true) s := by
    have w := c_lisrow (P := P) (gl := gl) (sb := sb) (fuel := 100) (j := 18) rfl (n + 1) (okR_tz a) s
    rw [row_rowD t.h] at w
    exact w
  have e1 : evE (cx (n + 2)) (.cmp .isnt (.call 1 [(.v 2)]) (.k (.bl true))) (envA ns v) s = .ok (.sh, .bl false) s := cmp_ok (k' := .sh) (s2 := s) (y := .bl true) (call1 (g2_ t rfl) (by rw [cc_call]; exact w1)) rfl rfl
  have e2 : evE (cx (n + 2)) (.not_ (.call 18 [(.v 2)])) (envA ns v) s = .ok (.sh, .bl false) s := not_ok (call1 (g2_ t rfl) (by rw [cc_call]; exact w2))
  exact ifs0 (or2 e1 e2)
def R3 : S := (.for_ (.nm 4) .rg1 [(.k (.int 6))] [(.asg (.nm 5) (.call 19 [(.v 1), (.v 2)])), (.ifs (.not_ (.call 16 [(.call 1 [(.v 5)]), (.call 18 [(.v 5)])])) [(.ret (.k (.bl false)))] []), (.ifs (.and_ (.not_ (.call 18 [(.v 5)])) (.cmp .ne (.lc (.call 20 [(.v 14), (.v 5), (.k (.int 0)), (.k (.int 1))]) (.nm 14) .seq [(.lst [(.k (.int 0)), (.k (.int 1)), (.k (.int 2)), (.k (.int 3)), (.k (.int 4)), (.k (.int 5)), (.k (.int 7))])] [] [14]) (.op .mul (.lst [(.k (.str ⟨#[60, 109, 97, 108, 102, 111, 114, 109, 101, 100, 62]⟩))]) (.k (.int 7))))) [(.ret (.k (.bl false)))] [])])
def K0 : S := (.asg (.nm 5) (.call 19 [(.v 1), (.v 2)]))
def K1 : S := (.ifs (.not_ (.call 16 [(.call 1 [(.v 5)]), (.call 18 [(.v 5)])])) [(.ret (.k (.bl false)))] [])
def K2 : S := (.ifs (.and_ (.not_ (.call 18 [(.v 5)])) (.cmp .ne (.lc (.call 20 [(.v 14), (.v 5), (.k (.int 0)), (.k (.int 1))]) (.nm 14) .seq [(.lst [(.k (.int 0)), (.k (.int 1)), (.k (.int 2)), (.k (.int 3)), (.k (.int 4)), (.k (.int 5)), (.k (.int 7))])] [] [14]) (.op .mul (.lst [(.k (.str ⟨#[60, 109, 97, 108, 102, 111, 114, 109, 101, 100, 62]⟩))]) (.k (.int 7))))) [(.ret (.k (.bl false)))] [])
theorem K_ok (n : Nat) (t : TR a v) (hs : Vd s) : ∃ d s', evSs (cx (n + 5)) [K0, K1, K2] (envA ns v) s = .nx (envA ns { v with x5 := some (false, d) }) s' ∧ Vd s' := by
  let c := cx (n + 5)
  obtain ⟨d, s1, q, v1, ok⟩ := bent (n + 2) hs t.h
  refine ⟨d, s1, ?_, v1⟩
  have b0 : evS c K0 (envA ns v) s = .nx (envA ns { v with x5 := some (false, d) }) s1 := asg_sh (call2 (s1 := s) (s2 := s) rfl (g2_ t rfl) (by rw [cc_call]; exact q))
  let env := envA ns { v with x5 := some (false, d) }
  have f5 : evE c (.v 5) env s1 = .ok (.sh, d) s1 := rfl
  have w1 : evE c (.call 1 [(.v 5)]) env s1 = .ok (.sh, .bl (rowD d)) s1 := call1 f5 (by rw [cc_call]; exact c_isrowG (P := P) (gl := gl) (sb := sb) (fuel := 100) (w := 0) (a := 0) (b := 1) (r := 1) rfl rfl rfl rfl (n + 3) ok s1)
  have w2 : evE c (.call 18 [(.v 5)]) env s1 = .ok (.sh, .bl (rowD d)) s1 := call1 f5 (by rw [cc_call]; exact c_lisrow (P := P) (gl := gl) (sb := sb) (fuel := 100) (j := 18) rfl (n + 4) ok s1)
  have w3 : evE c (.call 16 [(.call 1 [(.v 5)]), (.call 18 [(.v 5)])]) env s1 = .ok (.sh, .bl (rowD d == rowD d)) s1 := call2 w1 w2 (by rw [cc_call]; exact c_saysB (P := P) (gl := gl) (sb := sb) (fuel := 100) (j := 16) rfl (n + 4) _ _ s1)
  rw [beq_self_eq_true] at w3
  have b1 : evS c K1 env s1 = .nx env s1 := ifs0 (not_ok w3)
  have b2 : evS c K2 env s1 = .nx env s1 := by
    refine ifs0 ?_
    cases hr : rowD d with
    | true =>
      rw [hr] at w2
      exact and_f (not_ok w2)
    | false =>
      rw [hr] at w2
      rw [and_t (not_ok w2)]
      have e1 := lc_seq (c := c) (e := (.call 20 [(.v 14), (.v 5), (.k (.int 0)), (.k (.int 1))])) (a := (.lst [(.k (.int 0)), (.k (.int 1)), (.k (.int 2)), (.k (.int 3)), (.k (.int 4)), (.k (.int 5)), (.k (.int 7))])) (x := 14) (env := env) (s := s1) (own := [14]) (k := .fr) (d0 := .lst (([0, 1, 2, 3, 4, 5, 7] : List Nat).map fun (k : Nat) => D.int (k : Int))) (l := ([0, 1, 2, 3, 4, 5, 7] : List Nat).map fun (k : Nat) => D.int (k : Int)) (fun _ => .str malS) (.inr rfl) (by decide) rfl (fun e he => by
        obtain ⟨k, hk, rfl⟩ := List.mem_map.mp he
        exact call4 (s1 := s1) (s2 := s1) (s3 := s1) (s4 := s1) (d := .int (k : Int)) (e := d) rfl rfl rfl rfl (by rw [cc_call]; exact m_row n hk ok hr s1))
      exact cmp_ok e1 (show evE c (.op .mul (.lst [(.k (.str malS))]) (.k (.int 7))) env s1 = .ok (.fr, .lst (repD 7 [.str malS])) s1 from rfl) rfl
  rw [seq_one b0, seq_one b1, seq_one b2]; rfl
theorem R3_ok (n : Nat) (t : TR a v) (hs : Vd s) : ∃ x4 x5 s', evS (cx (n + 5)) R3 (envA ns v) s = .nx (envA ns { v with x4 := x4, x5 := x5 }) s' ∧ Vd s' := by
  have loop := forL_nx (asg := asgD (.nm 4)) (body := evSs (cx (n + 5)) [K0, K1, K2]) (items := rngI 0 6)
    (fun _ env s' => Vd s' ∧ ∃ x4 x5, env = envA ns { v with x4 := x4, x5 := x5 }) (env := envA ns v) (s := s) ⟨hs, v.x4, v.x5, rfl⟩ (fun j d env s' hj hI => by
      obtain ⟨v1, x4, x5, rfl⟩ := hI
      obtain ⟨e, s2, q, v2⟩ := K_ok (ns := ns) (v := { v with x4 := some (false, d), x5 := x5 }) (s := s') n ⟨t.h, t.x2, t.x3⟩ v1
      exact ⟨_, _, s2, rfl, .inl q, v2, some (false, d), _, rfl⟩)
  obtain ⟨env', s', e, v1, x4, x5, rfl⟩ := loop
  exact ⟨x4, x5, s', for_ok (evEs1 (x := (.sh, .int 6)) rfl) (itW_rg1 (m := 6) (by decide)) e, v1⟩
/-! ### the row's own questions -/
def R4 : S := (.asg (.nm 6) (.bc .tuple [(.lc (.op .sub (.ix (.v 2) (.op .add (.v 15) (.k (.int 1)))) (.ix (.v 2) (.v 15))) (.nm 15) .rg1 [(.op .sub (.v 3) (.k (.int 1)))] [] [15])]))
theorem R4_ok (c : Cc) (t : TR a v) : evS c R4 (envA ns v) s = .nx (envA ns { v with x6 := some (false, tz (stepsI a)) }) s := by
  have l := t.h.2.1
  have l1 := t.h.1
  let env := envA ns v
  have ln : evE c (.op .sub (.v 3) (.k (.int 1))) env s = .ok (.sh, .int ((a.length - 1 : Nat) : Int)) s := by
    rw [show ((a.length - 1 : Nat) : Int) = (a.length : Int) - 1 by omega]
    exact op_ok (k' := .sh) (s1 := s) (y := .int 1) (g3_ t rfl) rfl rfl
  have e1 := lc_rg (c := c) (e := (.op .sub (.ix (.v 2) (.op .add (.v 15) (.k (.int 1)))) (.ix (.v 2) (.v 15)))) (r := (.op .sub (.v 3) (.k (.int 1)))) (x := 15) (env := env) (s := s) (own := [15]) (m := a.length - 1) (fun k => .int (a.getD (k + 1) 0 - a.getD k 0)) (by omega) ln (fun k hk => by
    have f1 : evE c (.v 2) ((wipeE env [15]).set 15 (some (false, .int (k : Int)))) s = .ok (.sh, tz a) s := by simp [evSs, evS, evE, evEs, evTs, evT, Out.bind, Out.sr, lift, SR.seq, ixV, truD, cmD, opD, plainD, eqD, setS, setV, keep, bcD, dat, ixD, optS, asgV, asgVs, asgD, asgDs, backF, Ev.lent, Ev.leaves, testsD, keeps, flatD, inD, itV, itW, isLo, isSeq, itD, owned, Ev.unown, mixed, isFr, Ev.settle, oneI, slD, isiD, augV, flatAt, noEx, env, envA, wipeE, t.x2]
    exact op_ok (k := .sh) (k' := .sh) (s1 := s) (sq_ix (.t (b := a)) (j := k + 1) (by omega) f1 (k' := .sh) rfl) (sq_ix (.t (b := a)) (j := k) (by omega) f1 (k' := .sh) rfl) rfl)
  have q : (List.range (a.length - 1)).map (fun k => D.int (a.getD (k + 1) 0 - a.getD k 0)) = (stepsI a).map .int := by
    apply List.ext_getElem
    · rw [List.length_map, List.length_map, List.length_range, stepsI_len]
    · intro k h1 h2
      rw [List.length_map, List.length_range] at h1
      rw [List.getElem_map, List.getElem_map, List.getElem_range, ← getD_get (by rw [stepsI_len]; omega), stepsI_at (by omega)]
  rw [q] at e1
  exact asg_sh (bc1 e1 rfl)
def R5 : S := (.lk [3] (.ifs (.or_ (.cmp .ne (.call 20 [(.k (.int 0)), (.v 2), (.k (.int 0)), (.k (.int 0))]) (.v 6)) (.or_ (.cmp .ne (.call 20 [(.k (.int 1)), (.v 2), (.k (.int 0)), (.k (.int 0))]) (.bc .tuple [(.lc (.ix (.v 2) (.op .sub (.op .sub (.v 3) (.k (.int 1))) (.v 15))) (.nm 15) .rg1 [(.v 3)] [] [15])])) (.cmp .ne (.call 20 [(.k (.int 2)), (.v 2), (.k (.int 0)), (.k (.int 0))]) (.bc .tuple [(.lc (.op .sub (.k (.int 0)) (.v 16)) (.nm 16) .seq [(.v 2)] [] [16])])))) [(.ret (.k (.bl false)))] []))
theorem R5_ok (n : Nat) (t : TR a v) (h6 : v.x6 = some (false, tz (stepsI a))) : evS (cx (n + 5)) R5 (envA ns v) s = .nx (envA ns v) s := by
  have l := t.h.2.1
  have l1 := t.h.1
  let c := cx (n + 5)
  let env := envA ns v
  have p0 : evE c (.call 20 [(.k (.int 0)), (.v 2), (.k (.int 0)), (.k (.int 0))]) env s = .ok (.sh, tz (stepsI a)) s := call4 (s1 := s) (s2 := s) (s3 := s) (s4 := s) rfl (g2_ t rfl) rfl rfl (by rw [cc_call]; exact a0 n t.h _ _ s)
  have p1 : evE c (.call 20 [(.k (.int 1)), (.v 2), (.k (.int 0)), (.k (.int 0))]) env s = .ok (.sh, tz a.reverse) s := call4 (s1 := s) (s2 := s) (s3 := s) (s4 := s) rfl (g2_ t rfl) rfl rfl (by rw [cc_call]; exact a1 n t.h _ _ s)
  have p2 : evE c (.call 20 [(.k (.int 2)), (.v 2), (.k (.int 0)), (.k (.int 0))]) env s = .ok (.sh, tz (a.map fun x => -x)) s := call4 (s1 := s) (s2 := s) (s3 := s) (s4 := s) rfl (g2_ t rfl) rfl rfl (by rw [cc_call]; exact a2 n t.h _ _ s)
  have f6 : evE c (.v 6) env s = .ok (.sh, tz (stepsI a)) s := by simp [evSs, evS, evE, evEs, evTs, evT, Out.bind, Out.sr, lift, SR.seq, ixV, truD, cmD, opD, plainD, eqD, setS, setV, keep, bcD, dat, ixD, optS, asgV, asgVs, asgD, asgDs, backF, Ev.lent, Ev.leaves, testsD, keeps, flatD, inD, itV, itW, isLo, isSeq, itD, owned, Ev.unown, mixed, isFr, Ev.settle, oneI, slD, isiD, augV, flatAt, noEx, env, envA, h6]
  have e1 := lc_rg (c := c) (e := (.ix (.v 2) (.op .sub (.op .sub (.v 3) (.k (.int 1))) (.v 15)))) (r := (.v 3)) (x := 15) (env := env) (s := s) (own := [15]) (m := a.length) (fun k => .int (a.getD (a.length - 1 - k) 0)) (by omega) (g3_ t rfl) (fun k hk => by
    let env2 := (wipeE env [15]).set 15 (some (false, .int (k : Int)))
    have f1 : evE c (.v 2) env2 s = .ok (.sh, tz a) s := by simp [evSs, evS, evE, evEs, evTs, evT, Out.bind, Out.sr, lift, SR.seq, ixV, truD, cmD, opD, plainD, eqD, setS, setV, keep, bcD, dat, ixD, optS, asgV, asgVs, asgD, asgDs, backF, Ev.lent, Ev.leaves, testsD, keeps, flatD, inD, itV, itW, isLo, isSeq, itD, owned, Ev.unown, mixed, isFr, Ev.settle, oneI, slD, isiD, augV, flatAt, noEx, env2, env, envA, wipeE, t.x2]
    have f3 : evE c (.v 3) env2 s = .ok (.sh, .int (a.length : Int)) s := by simp [evSs, evS, evE, evEs, evTs, evT, Out.bind, Out.sr, lift, SR.seq, ixV, truD, cmD, opD, plainD, eqD, setS, setV, keep, bcD, dat, ixD, optS, asgV, asgVs, asgD, asgDs, backF, Ev.lent, Ev.leaves, testsD, keeps, flatD, inD, itV, itW, isLo, isSeq, itD, owned, Ev.unown, mixed, isFr, Ev.settle, oneI, slD, isiD, augV, flatAt, noEx, env2, env, envA, wipeE, t.x3]
    have ix : evE c (.op .sub (.op .sub (.v 3) (.k (.int 1))) (.v 15)) env2 s = .ok (.sh, .int ((a.length - 1 - k : Nat) : Int)) s := by
      rw [show ((a.length - 1 - k : Nat) : Int) = (a.length : Int) - 1 - (k : Int) by omega]
      exact op_ok (k := .sh) (k' := .sh) (s1 := s) (y := .int (k : Int)) (op_ok (k' := .sh) (s1 := s) (y := .int 1) f3 rfl rfl) rfl rfl
    exact sq_ix (.t (b := a)) (by omega) f1 ix)
  have q : (List.range a.length).map (fun k => D.int (a.getD (a.length - 1 - k) 0)) = a.reverse.map .int := by
    apply List.ext_getElem
    · rw [List.length_map, List.length_map, List.length_range, List.length_reverse]
    · intro k h1 h2
      rw [List.length_map, List.length_range] at h1
      rw [List.getElem_map, List.getElem_map, List.getElem_range, List.getElem_reverse, getD_get (by omega)]
  rw [q] at e1
  have e2 : evE c (.bc .tuple [(.lc (.op .sub (.k (.int 0)) (.v 16)) (.nm 16) .seq [(.v 2)] [] [16])]) env s = .ok (.sh, tz (a.map fun x => -x)) s := lc_map (c := c) (s := s) (env := env) (i := 2) (x := 16) (e := (.op .sub (.k (.int 0)) (.v 16))) (l := a) (fun x => -x) (by omega) (g2_ t rfl) (fun y => op_ok (k := .sh) (k' := .sh) (s1 := s) (x := .int 0) (y := .int y) rfl rfl (by
    show some (Kd.sh, D.int (0 - y)) = some (Kd.sh, D.int (-y))
    rw [Int.zero_sub]))
  have u : Ev.unown env [3] = env := by simp [Ev.unown, env, envA, t.x3]
  show evS c (.lk [3] (.ifs _ _ [])) env s = _
  rw [evS, u]
  exact ifs0 (or2 (cmp_ok p0 f6 (ne_tz _)) (or2 (cmp_ok p1 (bc1 e1 rfl) (ne_tz _)) (cmp_ok p2 e2 (ne_tz _))))
theorem stp_b (h : Row a) : ∀ y ∈ stepsI a, -2000 ≤ y ∧ y ≤ 2000 := fun y hy => by
  obtain ⟨i, hi, rfl⟩ := List.getElem_of_mem hy
  have ls := stepsI_len a
  rw [← getD_get hi, stepsI_at (by omega)]
  have b1 := h.2.2 _ (getD_mem (zs := a) (j := i) (by omega))
  have b2 := h.2.2 _ (getD_mem (zs := a) (j := i + 1) (by omega))
  omega
theorem run_sum (l1 : 1 ≤ a.length) : (List.range a.length).map (fun k => D.int ((a.take (k + 1)).sum)) = (run (a.getD 0 0) (a.drop 1)).map .int := by
  apply List.ext_getElem
  · rw [List.length_map, List.length_map, List.length_range, run_len, List.length_drop]; omega
  · intro k h1 h2
    rw [List.length_map, List.length_range] at h1
    rw [List.getElem_map, List.getElem_map, List.getElem_range, ← getD_get (by rw [run_len, List.length_drop]; omega), run_at _ _ _ (by rw [List.length_drop]; omega)]
    cases a with
    | nil => simp at l1
    | cons x r =>
      show D.int ((x :: r).take (k + 1)).sum = D.int (x + (r.take k).sum)
      rw [List.take_succ_cons, List.sum_cons]
def R6 : S := (.lk [3] (.ifs (.or_ (.cmp .ne (.call 20 [(.k (.int 6)), (.ix (.v 2) (.k (.int 0))), (.v 6), (.k (.int 0))]) (.v 2)) (.cmp .ne (.call 20 [(.k (.int 3)), (.v 2), (.k (.int 0)), (.k (.int 0))]) (.call 21 [(.bc .tuple [(.lc (.bc .sum [(.sl (.v 2) [] [(.op .add (.v 15) (.k (.int 1)))])]) (.nm 15) .rg1 [(.v 3)] [] [15])])]))) [(.ret (.k (.bl false)))] []))
theorem R6_ok (n : Nat) (t : TR a v) (h6 : v.x6 = some (false, tz (stepsI a))) : evS (cx (n + 5)) R6 (envA ns v) s = .nx (envA ns v) s := by
  have l := t.h.2.1
  have l1 := t.h.1
  have ls := stepsI_len a
  let c := cx (n + 5)
  let env := envA ns v
  have f6 : evE c (.v 6) env s = .ok (.sh, tz (stepsI a)) s := by simp [evSs, evS, evE, evEs, evTs, evT, Out.bind, Out.sr, lift, SR.seq, ixV, truD, cmD, opD, plainD, eqD, setS, setV, keep, bcD, dat, ixD, optS, asgV, asgVs, asgD, asgDs, backF, Ev.lent, Ev.leaves, testsD, keeps, flatD, inD, itV, itW, isLo, isSeq, itD, owned, Ev.unown, mixed, isFr, Ev.settle, oneI, slD, isiD, augV, flatAt, noEx, env, envA, h6]
  have x0 : evE c (.ix (.v 2) (.k (.int 0))) env s = .ok (.sh, .int (a.getD 0 0)) s := sq_ix (.t (b := a)) (j := 0) (k' := .sh) (by omega) (g2_ t rfl) rfl
  have p1 : evE c (.call 20 [(.k (.int 6)), (.ix (.v 2) (.k (.int 0))), (.v 6), (.k (.int 0))]) env s = .ok (.sh, tz a) s := call4 (s1 := s) (s2 := s) (s3 := s) (s4 := s) rfl x0 f6 rfl (by
    rw [cc_call]
    have w := a6 n (x := a.getD 0 0) (l := stepsI a) (t.h.2.2 _ (Ev.getD_mem (by omega))) (by omega) (stp_b t.h) (.int 0) s
    rw [run_steps a (by intro z; rw [z] at l1; simp at l1)] at w
    unfold fitsD at w
    rw [if_pos (fitB_of t.h)] at w
    exact w)
  have p2 : evE c (.call 20 [(.k (.int 3)), (.v 2), (.k (.int 0)), (.k (.int 0))]) env s = .ok (.sh, fitsD (run (a.getD 0 0) (a.drop 1))) s := call4 (s1 := s) (s2 := s) (s3 := s) (s4 := s) rfl (g2_ t rfl) rfl rfl (by rw [cc_call]; exact a3 n t.h _ _ s)
  have e1 := lc_rg (c := c) (e := (.bc .sum [(.sl (.v 2) [] [(.op .add (.v 15) (.k (.int 1)))])])) (r := (.v 3)) (x := 15) (env := env) (s := s) (own := [15]) (m := a.length) (fun k => .int ((a.take (k + 1)).sum)) (by omega) (g3_ t rfl) (fun k hk => by
    let env2 := (wipeE env [15]).set 15 (some (false, .int (k : Int)))
    have f1 : evE c (.v 2) env2 s = .ok (.sh, tz a) s := by simp [evSs, evS, evE, evEs, evTs, evT, Out.bind, Out.sr, lift, SR.seq, ixV, truD, cmD, opD, plainD, eqD, setS, setV, keep, bcD, dat, ixD, optS, asgV, asgVs, asgD, asgDs, backF, Ev.lent, Ev.leaves, testsD, keeps, flatD, inD, itV, itW, isLo, isSeq, itD, owned, Ev.unown, mixed, isFr, Ev.settle, oneI, slD, isiD, augV, flatAt, noEx, env2, env, envA, wipeE, t.x2]
    have sl : evE c (.sl (.v 2) [] [(.op .add (.v 15) (.k (.int 1)))]) env2 s = .ok (.sh, .tup (Ev.cutD (a.map .int) none (some ((k + 1 : Nat) : Int)))) s := sl_hi (k' := .sh) f1 rfl
    rw [cut_hd, ← List.map_take] at sl
    exact bc1 sl (by
      show (intsD ((a.take (k + 1)).map D.int)).map (fun ns => (Kd.sh, D.int ns.sum)) = _
      rw [intsD_map]; rfl))
  rw [run_sum l1] at e1
  have e2 : evE c (.call 21 [(.bc .tuple [(.lc (.bc .sum [(.sl (.v 2) [] [(.op .add (.v 15) (.k (.int 1)))])]) (.nm 15) .rg1 [(.v 3)] [] [15])])]) env s = .ok (.sh, fitsD (run (a.getD 0 0) (a.drop 1))) s := call1 (bc1 e1 rfl) (by rw [cc_call]; exact c_fits (n + 3) (by rw [run_len]; omega) (by rw [run_len, List.length_drop]; omega) s)
  have u : Ev.unown env [3] = env := by simp [Ev.unown, env, envA, t.x3]
  show evS c (.lk [3] (.ifs _ _ [])) env s = _
  rw [evS, u]
  exact ifs0 (or2 (cmp_ok p1 (g2_ t rfl) (ne_tz _)) (cmp_ok p2 e2 (ne_fits _)))
def R7 : S := (.ifs (.cmp .ne (.call 20 [(.k (.int 4)), (.v 2), (.k (.int 0)), (.k (.int 0))]) (.bc .tuple [(.lc (.v 15) (.nm 15) .rg2 [(.k (.int 1)), (.op .sub (.v 3) (.k (.int 1)))] [(.cmp .ne (.ix (.v 6) (.op .sub (.v 15) (.k (.int 1)))) (.ix (.v 6) (.v 15)))] [15])])) [(.ret (.k (.bl false)))] [])
theorem trn_law (S : List Int) : (rngL 1 (S.length : Int)).filter (fun k => !decide (S.getD (k - 1).toNat 0 = S.getD k.toNat 0)) = trn S := by
  have e : rngL 1 (S.length : Int) = (rngL 0 ((S.length : Int) - 1)).map (· + 1) := by
    unfold rngL
    rw [List.map_map, show ((S.length : Int) - 1 - 0).toNat = ((S.length : Int) - 1).toNat by omega]
    apply List.map_congr_left
    intro i _
    show 1 + (i : Int) = 0 + (i : Int) + 1
    omega
  unfold trn
  rw [e, List.filter_map]
  congr 1
  apply List.filter_congr
  intro p hp
  obtain ⟨h0, _⟩ := rngL_mem.mp hp
  show (!decide (S.getD (p + 1 - 1).toNat 0 = S.getD (p + 1).toNat 0)) = _
  rw [show (p + 1 - 1).toNat = p.toNat by omega, show (p + 1).toNat = p.toNat + 1 by omega]
theorem R7_ok (n : Nat) (t : TR a v) (h6 : v.x6 = some (false, tz (stepsI a))) : evS (cx (n + 5)) R7 (envA ns v) s = .nx (envA ns v) s := by
  have l := t.h.2.1
  have l1 := t.h.1
  have ls := stepsI_len a
  let c := cx (n + 5)
  let env := envA ns v
  have p : evE c (.call 20 [(.k (.int 4)), (.v 2), (.k (.int 0)), (.k (.int 0))]) env s = .ok (.sh, tz (trn (stepsI a))) s := call4 (s1 := s) (s2 := s) (s3 := s) (s4 := s) rfl (g2_ t rfl) rfl rfl (by rw [cc_call]; exact a4 n t.h _ _ s)
  have ln : evE c (.op .sub (.v 3) (.k (.int 1))) env s = .ok (.sh, .int ((stepsI a).length : Int)) s := by
    rw [show ((stepsI a).length : Int) = (a.length : Int) - 1 by omega]
    exact op_ok (k' := .sh) (s1 := s) (y := .int 1) (g3_ t rfl) rfl rfl
  have e1 := lc_r2t (c := c) (e := (.v 15)) (t := (.cmp .ne (.ix (.v 6) (.op .sub (.v 15) (.k (.int 1)))) (.ix (.v 6) (.v 15)))) (r := .k (.int 1)) (r2 := (.op .sub (.v 3) (.k (.int 1)))) (x := 15) (env := env) (s := s) (own := [15]) (i := 1) (j := ((stepsI a).length : Int)) (fun y => .int y) (fun k => !decide ((stepsI a).getD (k - 1).toNat 0 = (stepsI a).getD k.toNat 0)) (by decide) (by decide) (by omega) (by omega) (by omega) rfl ln (fun y y0 y1 => by
    obtain ⟨k, rfl⟩ : ∃ k : Nat, y = (k : Int) := ⟨y.toNat, by omega⟩
    have f6 : evE c (.v 6) ((wipeE env [15]).set 15 (some (false, .int (k : Int)))) s = .ok (.sh, tz (stepsI a)) s := by simp [evSs, evS, evE, evEs, evTs, evT, Out.bind, Out.sr, lift, SR.seq, ixV, truD, cmD, opD, plainD, eqD, setS, setV, keep, bcD, dat, ixD, optS, asgV, asgVs, asgD, asgDs, backF, Ev.lent, Ev.leaves, testsD, keeps, flatD, inD, itV, itW, isLo, isSeq, itD, owned, Ev.unown, mixed, isFr, Ev.settle, oneI, slD, isiD, augV, flatAt, noEx, env, envA, wipeE, h6]
    have ix : evE c (.op .sub (.v 15) (.k (.int 1))) ((wipeE env [15]).set 15 (some (false, .int (k : Int)))) s = .ok (.sh, .int ((k - 1 : Nat) : Int)) s := by
      rw [show ((k - 1 : Nat) : Int) = (k : Int) - 1 by omega]; rfl
    have w := cmp_ok (k := .sh) (k' := .sh) (s1 := s) (sq_ix (.t (b := stepsI a)) (j := k - 1) (by omega) f6 ix) (sq_ix (.t (b := stepsI a)) (j := k) (e := .v 15) (by omega) f6 (k' := .sh) rfl) (ne_int _ _)
    rw [show ((k : Int) - 1).toNat = k - 1 by omega, Int.toNat_natCast]
    exact w) (fun y _ _ _ => rfl)
  rw [trn_law] at e1
  exact ifs0 (cmp_ok p (bc1 e1 rfl) (ne_tz _))
def R8 : S := (.for_ (.nm 7) .seq [(.lst [(.k (.int 0)), (.op .sub (.call 15 [(.v 1), (.k (.int 2400))]) (.k (.int 1200))), (.op .sub (.k (.int 1000)) (.bc .max [(.v 2)])), (.op .sub (.k (.int 1001)) (.bc .max [(.v 2)]))])] [(.ifs (.cmp .ne (.call 20 [(.k (.int 5)), (.v 2), (.v 7), (.k (.int 0))]) (.call 21 [(.bc .tuple [(.lc (.op .add (.v 16) (.v 7)) (.nm 16) .seq [(.v 2)] [] [16])])])) [(.ret (.k (.bl false)))] [])])
def J0 : S := (.ifs (.cmp .ne (.call 20 [(.k (.int 5)), (.v 2), (.v 7), (.k (.int 0))]) (.call 21 [(.bc .tuple [(.lc (.op .add (.v 16) (.v 7)) (.nm 16) .seq [(.v 2)] [] [16])])])) [(.ret (.k (.bl false)))] [])
theorem R8_ok (n : Nat) (t : TR a v) (hs : Vd s) : ∃ x7 s', evS (cx (n + 5)) R8 (envA ns v) s = .nx (envA ns { v with x7 := x7 }) s' ∧ Vd s' := by
  have l := t.h.2.1
  have l1 := t.h.1
  let c := cx (n + 5)
  let env := envA ns v
  obtain ⟨x, s1, q1, v1, x0, x1⟩ := (tk (n + 4)).at_ hs (m := 2400) (by omega) (by omega)
  obtain ⟨m, hm, _, _⟩ := maxI_some (l := a) (by intro z; rw [z] at l1; simp at l1)
  have d1 : evE c (.op .sub (.call 15 [(.v 1), (.k (.int 2400))]) (.k (.int 1200))) env s = .ok (.sh, .int (x - 1200)) s1 := op_ok (k := .sh) (k' := .sh) (s1 := s1) (y := .int 1200) (call2 (s1 := s) (s2 := s) rfl rfl (by rw [cc_call]; exact q1)) rfl rfl
  have mx : evE c (.bc .max [(.v 2)]) env s1 = .ok (.sh, .int m) s1 := bc1 (g2_ t rfl) (by
    show ((intsD (a.map D.int)).bind maxI).map (fun i => (Kd.sh, D.int i)) = _
    rw [intsD_map]
    show (maxI a).map _ = _
    rw [hm]; rfl)
  have d2 : evE c (.op .sub (.k (.int 1000)) (.bc .max [(.v 2)])) env s1 = .ok (.sh, .int (1000 - m)) s1 := op_ok (k := .sh) (k' := .sh) (x := .int 1000) rfl mx rfl
  have d3 : evE c (.op .sub (.k (.int 1001)) (.bc .max [(.v 2)])) env s1 = .ok (.sh, .int (1001 - m)) s1 := op_ok (k := .sh) (k' := .sh) (x := .int 1001) rfl mx rfl
  let hsL : List Int := [0, x - 1200, 1000 - m, 1001 - m]
  have e0 : evE c (.lst [(.k (.int 0)), (.op .sub (.call 15 [(.v 1), (.k (.int 2400))]) (.k (.int 1200))), (.op .sub (.k (.int 1000)) (.bc .max [(.v 2)])), (.op .sub (.k (.int 1001)) (.bc .max [(.v 2)]))]) env s = .ok (.fr, .lst (hsL.map .int)) s1 := by
    rw [evE, evEs, bind_ok (show evE c (.k (.int 0)) env s = .ok (.sh, .int 0) s from rfl), evEs, bind_ok d1, evEs, bind_ok d2, evEs, bind_ok d3]; rfl
  have loop := forL_nx (asg := asgD (.nm 7)) (body := evSs c [J0]) (items := hsL.map D.int)
    (fun _ env s' => s' = s1 ∧ ∃ x7, env = envA ns { v with x7 := x7 }) (env := env) (s := s1) ⟨rfl, v.x7, rfl⟩ (fun j d env s' hj hI => by
      obtain ⟨rfl, x7, rfl⟩ := hI
      obtain ⟨h, _, rfl⟩ := List.mem_map.mp (List.mem_of_getElem? hj)
      let u : Vs := { v with x7 := some (false, .int h) }
      have tu : TR a u := ⟨t.h, t.x2, t.x3⟩
      have p : evE c (.call 20 [(.k (.int 5)), (.v 2), (.v 7), (.k (.int 0))]) (envA ns u) s' = .ok (.sh, fitsD (a.map (· + h))) s' := call4 (s1 := s') (s2 := s') (s3 := s') (s4 := s') rfl (g2_ tu rfl) (h := .int h) rfl rfl (by rw [cc_call]; exact a5 n t.h h _ s')
      have e2 : evE c (.bc .tuple [(.lc (.op .add (.v 16) (.v 7)) (.nm 16) .seq [(.v 2)] [] [16])]) (envA ns u) s' = .ok (.sh, tz (a.map (· + h))) s' := lc_map (c := c) (s := s') (env := envA ns u) (i := 2) (x := 16) (e := (.op .add (.v 16) (.v 7))) (l := a) (· + h) (by omega) (g2_ tu rfl) (fun y => rfl)
      have e3 : evE c (.call 21 [(.bc .tuple [(.lc (.op .add (.v 16) (.v 7)) (.nm 16) .seq [(.v 2)] [] [16])])]) (envA ns u) s' = .ok (.sh, fitsD (a.map (· + h))) s' := call1 e2 (by rw [cc_call]; exact c_fits (n + 3) (by rw [List.length_map]; omega) (by rw [List.length_map]; omega) s')
      have b : evS c J0 (envA ns u) s' = .nx (envA ns u) s' := ifs0 (cmp_ok p e3 (ne_fits _))
      have bb : evSs c [J0] (envA ns u) s' = .nx (envA ns u) s' := by rw [seq_one b]; rfl
      exact ⟨_, _, s', rfl, .inl bb, rfl, some (false, .int h), rfl⟩)
  obtain ⟨env', s', e, rfl, x7, rfl⟩ := loop
  exact ⟨x7, s', for_ok (evEs1 e0) rfl e, v1⟩
def R9 : S := (.asg (.nm 8) (.call 15 [(.v 1), (.v 3)]))
def R10 : S := (.asg (.nm 9) (.op .add (.op .add (.v 8) (.k (.int 1))) (.call 15 [(.v 1), (.op .sub (.v 3) (.v 8))])))
def R11 : S := (.lk [8, 9] (.ifs (.cmp .ne (.call 20 [(.k (.int 7)), (.v 2), (.v 8), (.v 9)]) (.bc .tuple [(.lc (.ix (.v 2) (.v 15)) (.nm 15) .rg2 [(.v 8), (.v 9)] [] [15])])) [(.ret (.k (.bl false)))] []))
theorem R9_ok (n : Nat) (t : TR a v) (hs : Vd s) : ∃ (i : Nat) (s' : Sg), evS (cx (n + 1)) R9 (envA ns v) s = .nx (envA ns { v with x8 := some (false, .int (i : Int)) }) s' ∧ Vd s' ∧ i < a.length := by
  have l1 := t.h.1
  have l := t.h.2.1
  obtain ⟨x, s1, q1, v1, x0, x1⟩ := (tk n).at_ hs (m := (a.length : Int)) (by omega) (by omega)
  obtain ⟨k, rfl⟩ : ∃ k : Nat, x = (k : Int) := ⟨x.toNat, by omega⟩
  exact ⟨k, s1, asg_sh (call2 (s1 := s) (s2 := s) rfl (g3_ t rfl) (by rw [cc_call]; exact q1)), v1, by omega⟩
theorem R10_ok (n : Nat) (t : TR a v) (hs : Vd s) {i : Nat} (hi : i < a.length) (h8 : v.x8 = some (false, .int (i : Int))) : ∃ (j : Nat) (s' : Sg), evS (cx (n + 1)) R10 (envA ns v) s = .nx (envA ns { v with x9 := some (false, .int (j : Int)) }) s' ∧ Vd s' ∧ i < j ∧ j ≤ a.length := by
  have l1 := t.h.1
  have l := t.h.2.1
  let c := cx (n + 1)
  obtain ⟨x, s1, q1, v1, x0, x1⟩ := (tk n).at_ hs (m := (a.length : Int) - (i : Int)) (by omega) (by omega)
  obtain ⟨k, rfl⟩ : ∃ k : Nat, x = (k : Int) := ⟨x.toNat, by omega⟩
  have f8 : evE c (.v 8) (envA ns v) s = .ok (.sh, .int (i : Int)) s := by simp [evSs, evS, evE, evEs, evTs, evT, Out.bind, Out.sr, lift, SR.seq, ixV, truD, cmD, opD, plainD, eqD, setS, setV, keep, bcD, dat, ixD, optS, asgV, asgVs, asgD, asgDs, backF, Ev.lent, Ev.leaves, testsD, keeps, flatD, inD, itV, itW, isLo, isSeq, itD, owned, Ev.unown, mixed, isFr, Ev.settle, oneI, slD, isiD, augV, flatAt, noEx, envA, h8]
  have d1 : evE c (.op .sub (.v 3) (.v 8)) (envA ns v) s = .ok (.sh, .int ((a.length : Int) - (i : Int))) s := op_ok (g3_ t rfl) f8 rfl
  have d2 : evE c (.op .add (.v 8) (.k (.int 1))) (envA ns v) s = .ok (.sh, .int ((i : Int) + 1)) s := op_ok (k' := .sh) (y := .int 1) f8 rfl rfl
  refine ⟨i + 1 + k, s1, ?_, v1, by omega, by omega⟩
  rw [show ((i + 1 + k : Nat) : Int) = (i : Int) + 1 + (k : Int) by omega]
  exact asg_sh (op_ok d2 (call2 (s1 := s) (s2 := s) rfl d1 (by rw [cc_call]; exact q1)) rfl)
theorem R11_ok (n : Nat) (t : TR a v) {i j : Nat} (hi : i < j) (hj : j ≤ a.length) (h8 : v.x8 = some (false, .int (i : Int))) (h9 : v.x9 = some (false, .int (j : Int))) : evS (cx (n + 5)) R11 (envA ns v) s = .nx (envA ns v) s := by
  have l1 := t.h.1
  have l := t.h.2.1
  let c := cx (n + 5)
  let env := envA ns v
  have f8 : evE c (.v 8) env s = .ok (.sh, .int (i : Int)) s := by simp [evSs, evS, evE, evEs, evTs, evT, Out.bind, Out.sr, lift, SR.seq, ixV, truD, cmD, opD, plainD, eqD, setS, setV, keep, bcD, dat, ixD, optS, asgV, asgVs, asgD, asgDs, backF, Ev.lent, Ev.leaves, testsD, keeps, flatD, inD, itV, itW, isLo, isSeq, itD, owned, Ev.unown, mixed, isFr, Ev.settle, oneI, slD, isiD, augV, flatAt, noEx, env, envA, h8]
  have f9 : evE c (.v 9) env s = .ok (.sh, .int (j : Int)) s := by simp [evSs, evS, evE, evEs, evTs, evT, Out.bind, Out.sr, lift, SR.seq, ixV, truD, cmD, opD, plainD, eqD, setS, setV, keep, bcD, dat, ixD, optS, asgV, asgVs, asgD, asgDs, backF, Ev.lent, Ev.leaves, testsD, keeps, flatD, inD, itV, itW, isLo, isSeq, itD, owned, Ev.unown, mixed, isFr, Ev.settle, oneI, slD, isiD, augV, flatAt, noEx, env, envA, h9]
  have p : evE c (.call 20 [(.k (.int 7)), (.v 2), (.v 8), (.v 9)]) env s = .ok (.sh, tz ((a.drop i).take (j - i))) s := call4 (s1 := s) (s2 := s) (s3 := s) (s4 := s) rfl (g2_ t rfl) f8 f9 (by rw [cc_call]; exact a7 n t.h hi hj s)
  have e1 := lc_r2 (c := c) (e := (.ix (.v 2) (.v 15))) (r := .v 8) (r2 := .v 9) (x := 15) (env := env) (s := s) (own := [15]) (i := (i : Int)) (j := (j : Int)) (fun y => .int (a.getD y.toNat 0)) (by omega) (by omega) (by omega) (by omega) (by omega) f8 f9 (fun y y0 y1 => by
    obtain ⟨k, rfl⟩ : ∃ k : Nat, y = (k : Int) := ⟨y.toNat, by omega⟩
    have f1 : evE c (.v 2) ((wipeE env [15]).set 15 (some (false, .int (k : Int)))) s = .ok (.sh, tz a) s := by simp [evSs, evS, evE, evEs, evTs, evT, Out.bind, Out.sr, lift, SR.seq, ixV, truD, cmD, opD, plainD, eqD, setS, setV, keep, bcD, dat, ixD, optS, asgV, asgVs, asgD, asgDs, backF, Ev.lent, Ev.leaves, testsD, keeps, flatD, inD, itV, itW, isLo, isSeq, itD, owned, Ev.unown, mixed, isFr, Ev.settle, oneI, slD, isiD, augV, flatAt, noEx, env, envA, wipeE, t.x2]
    rw [Int.toNat_natCast]
    exact sq_ix (.t (b := a)) (j := k) (by omega) f1 (k' := .sh) rfl)
  have q : (rngL (i : Int) (j : Int)).map (fun y => D.int (a.getD y.toNat 0)) = ((a.drop i).take (j - i)).map .int := by
    apply List.ext_getElem
    · rw [List.length_map, List.length_map, rngL_len, List.length_take, List.length_drop]; omega
    · intro k h1 h2
      rw [List.length_map, rngL_len] at h1
      rw [List.getElem_map, List.getElem_map, List.getElem_take, List.getElem_drop]
      unfold rngL
      rw [List.getElem_map, List.getElem_range, show ((i : Int) + (k : Int)).toNat = i + k by omega, getD_get (by omega)]
  rw [q] at e1
  have u : Ev.unown env [8, 9] = env := by simp [Ev.unown, env, envA, h8, h9]
  show evS c (.lk [8, 9] (.ifs _ _ [])) env s = _
  rw [evS, u]
  exact ifs0 (cmp_ok p (bc1 e1 rfl) (ne_tz _))
def R12 : S := (.asg (.nm 10) (.bc .tuple [(.lc (.op .sub (.call 15 [(.v 1), (.k (.int 4001))]) (.k (.int 2000))) (.nm 15) .rg1 [(.call 15 [(.v 1), (.k (.int 12))])] [] [15])]))
theorem R12_ok (n : Nat) (hs : Vd s) : ∃ (m : List Int) (s' : Sg), evS (cx (n + 1)) R12 (envA ns v) s = .nx (envA ns { v with x10 := some (false, tz m) }) s' ∧ Vd s' ∧ m.length ≤ 11 ∧ ∀ y ∈ m, -2000 ≤ y ∧ y ≤ 2000 := by
  let c := cx (n + 1)
  obtain ⟨x, s1, q1, v1, x0, x1⟩ := (tk n).at_ hs (m := 12) (by omega) (by omega)
  obtain ⟨k, rfl⟩ : ∃ k : Nat, x = (k : Int) := ⟨x.toNat, by omega⟩
  obtain ⟨w, s2, e, v2, lw, hw⟩ := lc_drawnS (c := c) (e := (.op .sub (.call 15 [(.v 1), (.k (.int 4001))]) (.k (.int 2000)))) (r := (.call 15 [(.v 1), (.k (.int 12))])) (x := 15) (own := [15]) (env := envA ns v) (s := s) (s1 := s1) (m := k) (fun z => -2000 ≤ z ∧ z ≤ 2000) (by omega) (call2 (s1 := s) (s2 := s) rfl rfl (by rw [cc_call]; exact q1)) v1 (fun d s hv => by
    obtain ⟨y, s2, q2, v2, y0, y1⟩ := (tk n).at_ hv (m := 4001) (by omega) (by omega)
    exact ⟨y - 2000, s2, op_ok (k := .sh) (k' := .sh) (s1 := s2) (y := .int 2000) (call2 (s1 := s) (s2 := s) rfl rfl (by rw [cc_call]; exact q2)) rfl rfl, v2, by omega, by omega⟩)
  exact ⟨w, s2, asg_sh (bc1 e rfl), v2, by omega, hw⟩
def R13 : S := (.asg (.nm 11) (.lst [(.ix (.v 2) (.k (.int 0)))]))
theorem R13_ok (c : Cc) (t : TR a v) : evS c R13 (envA ns v) s = .nx (envA ns { v with x11 := some (true, .lst [.int (a.getD 0 0)]) }) s := by
  have l1 := t.h.1
  have x0 : evE c (.ix (.v 2) (.k (.int 0))) (envA ns v) s = .ok (.sh, .int (a.getD 0 0)) s := sq_ix (.t (b := a)) (j := 0) (k' := .sh) (by omega) (g2_ t rfl) rfl
  exact asg_fr (by rw [evE, evEs, bind_ok x0]; rfl)
def R14 : S := (.lk [10] (.for_ (.nm 12) .seq [(.v 10)] [(.app 11 (.op .add (.ix (.v 11) (.neg (.k (.int 1)))) (.v 12)))]))
theorem R14_ok (c : Cc) {m : List Int} (hm : m.length ≤ 11) (h10 : v.x10 = some (false, tz m)) (h11 : v.x11 = some (true, .lst [.int (a.getD 0 0)])) : ∃ x12, evS c R14 (envA ns v) s = .nx (envA ns { v with x11 := some (true, tl (run (a.getD 0 0) m)), x12 := x12 }) s := by
  let env := envA ns v
  have f10 : evE c (.v 10) env s = .ok (.sh, tz m) s := by simp [evSs, evS, evE, evEs, evTs, evT, Out.bind, Out.sr, lift, SR.seq, ixV, truD, cmD, opD, plainD, eqD, setS, setV, keep, bcD, dat, ixD, optS, asgV, asgVs, asgD, asgDs, backF, Ev.lent, Ev.leaves, testsD, keeps, flatD, inD, itV, itW, isLo, isSeq, itD, owned, Ev.unown, mixed, isFr, Ev.settle, oneI, slD, isiD, augV, flatAt, noEx, env, envA, h10]
  obtain ⟨y, g⟩ := run_loop (c := c) (s := s) (env0 := env) (t := 12) (i := 11) (k := .seq) (ies := [(.v 10)]) (L := m) (x := a.getD 0 0) (by omega) (by show some v.x11 = _; rw [h11]) (by decide) (by show 12 < 20; decide) (evEs1 f10) rfl
  have u : Ev.unown env [10] = env := by simp [Ev.unown, env, envA, h10]
  refine ⟨y, ?_⟩
  show evS c (.lk [10] (.for_ (.nm 12) .seq [(.v 10)] _)) env s = _
  rw [evS, u]
  exact g
def R15 : S := (.ifs (.cmp .ne (.call 20 [(.k (.int 6)), (.ix (.v 2) (.k (.int 0))), (.v 10), (.k (.int 0))]) (.call 21 [(.bc .tuple [(.v 11)])])) [(.ret (.k (.bl false)))] [])
theorem R15_ok (n : Nat) (t : TR a v) {m : List Int} (hm : m.length ≤ 11) (hb : ∀ y ∈ m, -2000 ≤ y ∧ y ≤ 2000) (h10 : v.x10 = some (false, tz m)) (h11 : v.x11 = some (true, tl (run (a.getD 0 0) m))) : evS (cx (n + 5)) R15 (envA ns v) s = .nx (envA ns v) s := by
  have l1 := t.h.1
  let c := cx (n + 5)
  let env := envA ns v
  have f10 : evE c (.v 10) env s = .ok (.sh, tz m) s := by simp [evSs, evS, evE, evEs, evTs, evT, Out.bind, Out.sr, lift, SR.seq, ixV, truD, cmD, opD, plainD, eqD, setS, setV, keep, bcD, dat, ixD, optS, asgV, asgVs, asgD, asgDs, backF, Ev.lent, Ev.leaves, testsD, keeps, flatD, inD, itV, itW, isLo, isSeq, itD, owned, Ev.unown, mixed, isFr, Ev.settle, oneI, slD, isiD, augV, flatAt, noEx, env, envA, h10]
  have f11 : evE c (.v 11) env s = .ok (.lo, tl (run (a.getD 0 0) m)) s := by simp [evSs, evS, evE, evEs, evTs, evT, Out.bind, Out.sr, lift, SR.seq, ixV, truD, cmD, opD, plainD, eqD, setS, setV, keep, bcD, dat, ixD, optS, asgV, asgVs, asgD, asgDs, backF, Ev.lent, Ev.leaves, testsD, keeps, flatD, inD, itV, itW, isLo, isSeq, itD, owned, Ev.unown, mixed, isFr, Ev.settle, oneI, slD, isiD, augV, flatAt, noEx, env, envA, h11]
  have x0 : evE c (.ix (.v 2) (.k (.int 0))) env s = .ok (.sh, .int (a.getD 0 0)) s := sq_ix (.t (b := a)) (j := 0) (k' := .sh) (by omega) (g2_ t rfl) rfl
  have p1 : evE c (.call 20 [(.k (.int 6)), (.ix (.v 2) (.k (.int 0))), (.v 10), (.k (.int 0))]) env s = .ok (.sh, fitsD (run (a.getD 0 0) m)) s := call4 (s1 := s) (s2 := s) (s3 := s) (s4 := s) rfl x0 f10 rfl (by rw [cc_call]; exact a6 n (t.h.2.2 _ (Ev.getD_mem (by omega))) hm hb (.int 0) s)
  have e2 : evE c (.call 21 [(.bc .tuple [(.v 11)])]) env s = .ok (.sh, fitsD (run (a.getD 0 0) m)) s := call1 (bc1 f11 rfl) (by rw [cc_call]; exact c_fits (n + 3) (by rw [run_len]; omega) (by rw [run_len]; omega) s)
  exact ifs0 (cmp_ok p1 e2 (ne_fits _))
/-! ### what is no argument -/
def bq (k : Nat) (A B C : D) : D := .tup [.int (k : Int), A, B, C]
def bads (a : List Int) : List D := [bq 5 (tz a) .non (.int 0), bq 5 (tz a) (.bl true) (.int 0), bq 6 (.int 1001) (.tup []) (.int 0), bq 6 (.int 0) (.tup (repD 12 [.int 0])) (.int 0), bq 6 (.int 0) (.tup [.int 2001]) (.int 0), bq 6 (.int 0) (.lst [.int 0]) (.int 0), bq 6 (.bl true) (.tup []) (.int 0), bq 6 (.int 0) (.tup [.bl true]) (.int 0), bq 7 (tz a) (.int (a.length : Int)) (.int ((a.length : Int) + 1))]
def bads2 (a : List Int) : List D := [bq 7 (tz a) (.int 0) (.int 0), bq 7 (tz a) (.int 0) (.int ((a.length : Int) + 1)), bq 7 (tz a) (.bl true) (.int 1), bq 7 (tz a) (.int 0) .non, bq 7 (tz a) (.int (-1)) (.int 1)]
theorem prt_no {i j : Int} (h : ¬ ((0 ≤ i ∧ i < (a.length : Int)) ∧ i < j ∧ j ≤ (a.length : Int))) : prtB a.length (.int i) (.int j) = false := by
  show ((decide (0 ≤ i) && decide (i < (a.length : Int))) && (decide (i < j) && decide (j ≤ (a.length : Int)))) = false
  rw [← Bool.not_eq_true, Bool.and_eq_true, Bool.and_eq_true, Bool.and_eq_true, decide_eq_true_eq, decide_eq_true_eq, decide_eq_true_eq, decide_eq_true_eq]
  exact h
theorem bad_all (n : Nat) (h : Row a) {d : D} (hd : d ∈ bads a ++ bads2 a) (s : Sg) : ∃ k A B C, d = bq k A B C ∧ ask n k A B C s = .ok (.sh, .str malS) s := by
  have l1 := h.1
  simp only [bads, bads2, List.cons_append, List.nil_append, List.mem_cons, List.not_mem_nil, or_false] at hd
  rcases hd with rfl | rfl | rfl | rfl | rfl | rfl | rfl | rfl | rfl | rfl | rfl | rfl | rfl | rfl
  · exact ⟨_, _, _, _, rfl, m_lift n h rfl rfl _ s⟩
  · exact ⟨_, _, _, _, rfl, m_lift n h rfl rfl _ s⟩
  · exact ⟨_, _, _, _, rfl, m_from n rfl _⟩
  · exact ⟨_, _, _, _, rfl, m_from n rfl _⟩
  · exact ⟨_, _, _, _, rfl, m_from n rfl _⟩
  · exact ⟨_, _, _, _, rfl, m_from n rfl _⟩
  · exact ⟨_, _, _, _, rfl, m_from n rfl _⟩
  · exact ⟨_, _, _, _, rfl, m_from n rfl _⟩
  · exact ⟨_, _, _, _, rfl, m_part n h rfl rfl (prt_no (by omega)) s⟩
  · exact ⟨_, _, _, _, rfl, m_part n h rfl rfl (prt_no (by omega)) s⟩
  · exact ⟨_, _, _, _, rfl, m_part n h rfl rfl (prt_no (by omega)) s⟩
  · exact ⟨_, _, _, _, rfl, m_part n h rfl rfl rfl s⟩
  · exact ⟨_, _, _, _, rfl, m_part n h rfl rfl rfl s⟩
  · exact ⟨_, _, _, _, rfl, m_part n h rfl rfl (prt_no (by omega)) s⟩
def R16 : S := (.lk [2, 3] (.asg (.nm 13) (.lst [(.tup [(.k (.int 5)), (.v 2), (.k .non), (.k (.int 0))]), (.tup [(.k (.int 5)), (.v 2), (.k (.bl true)), (.k (.int 0))]), (.tup [(.k (.int 6)), (.k (.int 1001)), (.tup []), (.k (.int 0))]), (.tup [(.k (.int 6)), (.k (.int 0)), (.op .mul (.tup [(.k (.int 0))]) (.k (.int 12))), (.k (.int 0))]), (.tup [(.k (.int 6)), (.k (.int 0)), (.tup [(.k (.int 2001))]), (.k (.int 0))]), (.tup [(.k (.int 6)), (.k (.int 0)), (.lst [(.k (.int 0))]), (.k (.int 0))]), (.tup [(.k (.int 6)), (.k (.bl true)), (.tup []), (.k (.int 0))]), (.tup [(.k (.int 6)), (.k (.int 0)), (.tup [(.k (.bl true))]), (.k (.int 0))]), (.tup [(.k (.int 7)), (.v 2), (.v 3), (.op .add (.v 3) (.k (.int 1)))])])))
theorem R16_ok (c : Cc) (t : TR a v) : evS c R16 (envA ns v) s = .nx (envA ns { v with x13 := some (true, .lst (bads a)) }) s := by
  let env := envA ns v
  have f2 := g2_ (s := s) (c := c) t (env := env) rfl
  have f3 := g3_ (s := s) (c := c) t (env := env) rfl
  have k_ : ∀ d, evE c (.k d) env s = .ok (.sh, d) s := fun d => by rw [evE]
  have q4 : ∀ {e1 e2 e3 e4 : E} {d1 d2 d3 d4 : D}, evE c e1 env s = .ok (.sh, d1) s → evE c e2 env s = .ok (.sh, d2) s → evE c e3 env s = .ok (.sh, d3) s → evE c e4 env s = .ok (.sh, d4) s → evE c (.tup [e1, e2, e3, e4]) env s = .ok (.sh, .tup [d1, d2, d3, d4]) s := fun h1 h2 h3 h4 => by
    rw [evE, evEs, bind_ok h1, evEs, bind_ok h2, evEs, bind_ok h3, evEs, bind_ok h4]; rfl
  have n1 : evE c (.op .add (.v 3) (.k (.int 1))) env s = .ok (.sh, .int ((a.length : Int) + 1)) s := op_ok (k' := .sh) (y := .int 1) f3 rfl rfl
  have p1 := q4 (k_ (.int 5)) f2 (k_ .non) (k_ (.int 0))
  have p2 := q4 (k_ (.int 5)) f2 (k_ (.bl true)) (k_ (.int 0))
  have p3 : evE c (.tup [(.k (.int 6)), (.k (.int 1001)), (.tup []), (.k (.int 0))]) env s = .ok (.sh, bq 6 (.int 1001) (.tup []) (.int 0)) s := rfl
  have p4 : evE c (.tup [(.k (.int 6)), (.k (.int 0)), (.op .mul (.tup [(.k (.int 0))]) (.k (.int 12))), (.k (.int 0))]) env s = .ok (.sh, bq 6 (.int 0) (.tup (repD 12 [.int 0])) (.int 0)) s := rfl
  have p5 : evE c (.tup [(.k (.int 6)), (.k (.int 0)), (.tup [(.k (.int 2001))]), (.k (.int 0))]) env s = .ok (.sh, bq 6 (.int 0) (.tup [.int 2001]) (.int 0)) s := rfl
  have p6 : evE c (.tup [(.k (.int 6)), (.k (.int 0)), (.lst [(.k (.int 0))]), (.k (.int 0))]) env s = .ok (.sh, bq 6 (.int 0) (.lst [.int 0]) (.int 0)) s := rfl
  have p7 : evE c (.tup [(.k (.int 6)), (.k (.bl true)), (.tup []), (.k (.int 0))]) env s = .ok (.sh, bq 6 (.bl true) (.tup []) (.int 0)) s := rfl
  have p8 : evE c (.tup [(.k (.int 6)), (.k (.int 0)), (.tup [(.k (.bl true))]), (.k (.int 0))]) env s = .ok (.sh, bq 6 (.int 0) (.tup [.bl true]) (.int 0)) s := rfl
  have p9 := q4 (k_ (.int 7)) f2 f3 n1
  have u : Ev.unown env [2, 3] = env := by simp [Ev.unown, env, envA, t.x2, t.x3]
  show evS c (.lk [2, 3] (.asg (.nm 13) (.lst [_, _, _, _, _, _, _, _, _]))) env s = _
  rw [evS, u]
  refine asg_fr ?_
  rw [evE, evEs, bind_ok p1, evEs, bind_ok p2, evEs, bind_ok p3, evEs, bind_ok p4, evEs, bind_ok p5, evEs, bind_ok p6, evEs, bind_ok p7, evEs, bind_ok p8, evEs, bind_ok p9]; rfl
def R17 : S := (.lk [2] (.asg (.nm 13) (.op .add (.v 13) (.lst [(.tup [(.k (.int 7)), (.v 2), (.k (.int 0)), (.k (.int 0))]), (.tup [(.k (.int 7)), (.v 2), (.k (.int 0)), (.op .add (.v 3) (.k (.int 1)))]), (.tup [(.k (.int 7)), (.v 2), (.k (.bl true)), (.k (.int 1))]), (.tup [(.k (.int 7)), (.v 2), (.k (.int 0)), (.k .non)]), (.tup [(.k (.int 7)), (.v 2), (.neg (.k (.int 1))), (.k (.int 1))])]))))
theorem R17_ok (c : Cc) (t : TR a v) (h13 : v.x13 = some (true, .lst (bads a))) : evS c R17 (envA ns v) s = .nx (envA ns { v with x13 := some (true, .lst (bads a ++ bads2 a)) }) s := by
  let env := envA ns v
  have f2 := g2_ (s := s) (c := c) t (env := env) rfl
  have f3 := g3_ (s := s) (c := c) t (env := env) rfl
  have f13 : evE c (.v 13) env s = .ok (.lo, .lst (bads a)) s := by simp [evSs, evS, evE, evEs, evTs, evT, Out.bind, Out.sr, lift, SR.seq, ixV, truD, cmD, opD, plainD, eqD, setS, setV, keep, bcD, dat, ixD, optS, asgV, asgVs, asgD, asgDs, backF, Ev.lent, Ev.leaves, testsD, keeps, flatD, inD, itV, itW, isLo, isSeq, itD, owned, Ev.unown, mixed, isFr, Ev.settle, oneI, slD, isiD, augV, flatAt, noEx, env, envA, h13]
  have k_ : ∀ d, evE c (.k d) env s = .ok (.sh, d) s := fun d => by rw [evE]
  have q4 : ∀ {e1 e2 e3 e4 : E} {d1 d2 d3 d4 : D}, evE c e1 env s = .ok (.sh, d1) s → evE c e2 env s = .ok (.sh, d2) s → evE c e3 env s = .ok (.sh, d3) s → evE c e4 env s = .ok (.sh, d4) s → evE c (.tup [e1, e2, e3, e4]) env s = .ok (.sh, .tup [d1, d2, d3, d4]) s := fun h1 h2 h3 h4 => by
    rw [evE, evEs, bind_ok h1, evEs, bind_ok h2, evEs, bind_ok h3, evEs, bind_ok h4]; rfl
  have n1 : evE c (.op .add (.v 3) (.k (.int 1))) env s = .ok (.sh, .int ((a.length : Int) + 1)) s := op_ok (k' := .sh) (y := .int 1) f3 rfl rfl
  have p1 := q4 (k_ (.int 7)) f2 (k_ (.int 0)) (k_ (.int 0))
  have p2 := q4 (k_ (.int 7)) f2 (k_ (.int 0)) n1
  have p3 := q4 (k_ (.int 7)) f2 (k_ (.bl true)) (k_ (.int 1))
  have p4 := q4 (k_ (.int 7)) f2 (k_ (.int 0)) (k_ .non)
  have p5 := q4 (k_ (.int 7)) f2 (show evE c (.neg (.k (.int 1))) env s = .ok (.sh, .int (-1)) s from rfl) (k_ (.int 1))
  have u : Ev.unown env [2] = env := by simp [Ev.unown, env, envA, t.x2]
  show evS c (.lk [2] (.asg (.nm 13) (.op .add (.v 13) (.lst [_, _, _, _, _])))) env s = _
  rw [evS, u]
  have e2 : evE c (.lst [(.tup [(.k (.int 7)), (.v 2), (.k (.int 0)), (.k (.int 0))]), (.tup [(.k (.int 7)), (.v 2), (.k (.int 0)), (.op .add (.v 3) (.k (.int 1)))]), (.tup [(.k (.int 7)), (.v 2), (.k (.bl true)), (.k (.int 1))]), (.tup [(.k (.int 7)), (.v 2), (.k (.int 0)), (.k .non)]), (.tup [(.k (.int 7)), (.v 2), (.neg (.k (.int 1))), (.k (.int 1))])]) env s = .ok (.fr, .lst (bads2 a)) s := by
    rw [evE, evEs, bind_ok p1, evEs, bind_ok p2, evEs, bind_ok p3, evEs, bind_ok p4, evEs, bind_ok p5]; rfl
  exact asg_fr (op_ok f13 e2 rfl)
def R18 : S := (.ret (.bc .all [(.lc (.cmp .eq (.call 20 [(.v 14), (.v 17), (.v 18), (.v 19)]) (.k (.str ⟨#[60, 109, 97, 108, 102, 111, 114, 109, 101, 100, 62]⟩))) (.tu [(.nm 14), (.nm 17), (.nm 18), (.nm 19)]) .seq [(.v 13)] [] [14, 17, 18, 19])]))
theorem R18_ok (n : Nat) (h : Row a) (h13 : v.x13 = some (true, .lst (bads a ++ bads2 a))) : evS (cx (n + 5)) R18 (envA ns v) s = .rt (.sh, .bl true) s := by
  let c := cx (n + 5)
  let env := envA ns v
  have f13 : evE c (.v 13) env s = .ok (.lo, .lst (bads a ++ bads2 a)) s := by simp [evSs, evS, evE, evEs, evTs, evT, Out.bind, Out.sr, lift, SR.seq, ixV, truD, cmD, opD, plainD, eqD, setS, setV, keep, bcD, dat, ixD, optS, asgV, asgVs, asgD, asgDs, backF, Ev.lent, Ev.leaves, testsD, keeps, flatD, inD, itV, itW, isLo, isSeq, itD, owned, Ev.unown, mixed, isFr, Ev.settle, oneI, slD, isiD, augV, flatAt, noEx, env, envA, h13]
  have e1 := lc_pureT (c := c) (elt := (.cmp .eq (.call 20 [(.v 14), (.v 17), (.v 18), (.v 19)]) (.k (.str malS)))) (tg := .tu [.nm 14, .nm 17, .nm 18, .nm 19]) (k := .seq) (ies := [(.v 13)]) (cs := []) (own := [14, 17, 18, 19]) (env := env) (s := s) (s1 := s) (xs := [(.lo, .lst (bads a ++ bads2 a))]) (items := bads a ++ bads2 a) (fun _ => [.bl true]) (evEs1 f13) rfl (fun d hd => by
    obtain ⟨k, A, B, C, rfl, q⟩ := bad_all n h hd s
    refine ⟨_, rfl, ?_⟩
    have e2 : evE c (.call 20 [(.v 14), (.v 17), (.v 18), (.v 19)]) (((((wipeE env [14, 17, 18, 19]).set 14 (some (false, .int (k : Int)))).set 17 (some (false, A))).set 18 (some (false, B))).set 19 (some (false, C))) s = .ok (.sh, .str malS) s := call4 (d := .int (k : Int)) (s1 := s) (s2 := s) (s3 := s) (s4 := s) rfl rfl rfl rfl (by rw [cc_call]; exact q)
    have e3 := cmp_ok (k' := .sh) (o := .eq) (b := .k (.str malS)) (s2 := s) (v := true) e2 rfl rfl
    show (evE c _ _ s).bind _ = _
    exact (bind_ok e3).trans rfl) (by
    show ((bads a ++ bads2 a).flatMap fun _ => [D.bl true]).length ≤ sizeLine
    exact sz1000 (by show 14 ≤ 1000; decide))
  exact ret_sh (bc1 e1 rfl)
end
theorem holds (ns : List Int) (h : ns.length ≤ 63) : Ev.LawR ⟨cs.map fun p => p.2, sb, Ev.evC P (cs.map fun p => p.2) sb 100 12, 100⟩ sL rL e22.N.length ns := by
  refine law_start (c := cx 12) (i := 14) (by decide) h (draw_call (P := P) (gl := gl) (sb := sb) (fuel := 100) (n := 11) (i := 14) rfl h) fun s hs => ?_
  obtain ⟨a, s0, q0, w0, hr⟩ := R0_ok (ns := ns) (v := Vs.none) 10 hs
  let v0 : Vs := { Vs.none with x2 := some (false, tz a) }
  have q1 := R1_ok (ns := ns) (v := v0) (s := s0) (a := a) (cx 12) rfl
  let v1 : Vs := { v0 with x3 := some (false, .int (a.length : Int)) }
  have t1 : TR a v1 := ⟨hr, rfl, rfl⟩
  have q2 := R2_ok (ns := ns) (v := v1) (s := s0) 10 t1
  obtain ⟨y4, y5, s3, q3, w3⟩ := R3_ok (ns := ns) (v := v1) (s := s0) 7 t1 w0
  let v3 : Vs := { v1 with x4 := y4, x5 := y5 }
  have t3 : TR a v3 := ⟨hr, rfl, rfl⟩
  have q4 := R4_ok (ns := ns) (v := v3) (s := s3) (cx 12) t3
  let v4 : Vs := { v3 with x6 := some (false, tz (stepsI a)) }
  have t4 : TR a v4 := ⟨hr, rfl, rfl⟩
  have q5 := R5_ok (ns := ns) (v := v4) (s := s3) 7 t4 rfl
  have q6 := R6_ok (ns := ns) (v := v4) (s := s3) 7 t4 rfl
  have q7 := R7_ok (ns := ns) (v := v4) (s := s3) 7 t4 rfl
  obtain ⟨y7, s8, q8, w8⟩ := R8_ok (ns := ns) (v := v4) (s := s3) 7 t4 w3
  let v8 : Vs := { v4 with x7 := y7 }
  have t8 : TR a v8 := ⟨hr, rfl, rfl⟩
  obtain ⟨i, s9, q9, w9, hi⟩ := R9_ok (ns := ns) (v := v8) (s := s8) 11 t8 w8
  let v9 : Vs := { v8 with x8 := some (false, .int (i : Int)) }
  have t9 : TR a v9 := ⟨hr, rfl, rfl⟩
  obtain ⟨j, s10, q10, w10, hj, hj2⟩ := R10_ok (ns := ns) (v := v9) (s := s9) 11 t9 w9 hi rfl
  let v10 : Vs := { v9 with x9 := some (false, .int (j : Int)) }
  have t10 : TR a v10 := ⟨hr, rfl, rfl⟩
  have q11 := R11_ok (ns := ns) (v := v10) (s := s10) 7 t10 hj hj2 rfl rfl
  obtain ⟨m, s12, q12, w12, lm, hm⟩ := R12_ok (ns := ns) (v := v10) (s := s10) 11 w10
  let v12 : Vs := { v10 with x10 := some (false, tz m) }
  have t12 : TR a v12 := ⟨hr, rfl, rfl⟩
  have q13 := R13_ok (ns := ns) (v := v12) (s := s12) (cx 12) t12
  let v13 : Vs := { v12 with x11 := some (true, .lst [.int (a.getD 0 0)]) }
  obtain ⟨y12, q14⟩ := R14_ok (ns := ns) (v := v13) (s := s12) (a := a) (cx 12) lm rfl rfl
  let v14 : Vs := { v13 with x11 := some (true, tl (run (a.getD 0 0) m)), x12 := y12 }
  have t14 : TR a v14 := ⟨hr, rfl, rfl⟩
  have q15 := R15_ok (ns := ns) (v := v14) (s := s12) 7 t14 lm hm rfl rfl
  have q16 := R16_ok (ns := ns) (v := v14) (s := s12) (cx 12) t14
  let v16 : Vs := { v14 with x13 := some (true, .lst (bads a)) }
  have t16 : TR a v16 := ⟨hr, rfl, rfl⟩
  have q17 := R17_ok (ns := ns) (v := v16) (s := s12) (cx 12) t16 rfl
  have q18 := R18_ok (ns := ns) (v := { v16 with x13 := some (true, .lst (bads a ++ bads2 a)) }) (s := s12) 7 hr rfl
  refine ⟨s12, ?_⟩
  show evSs (cx 12) [R0, R1, R2, R3, R4, R5, R6, R7, R8, R9, R10, R11, R12, R13, R14, R15, R16, R17, R18] (envA ns Vs.none) s = _
  rw [seq_one q0, seq_one q1, seq_one q2, seq_one q3, seq_one q4, seq_one q5, seq_one q6, seq_one q7, seq_one q8, seq_one q9, seq_one q10, seq_one q11, seq_one q12, seq_one q13, seq_one q14, seq_one q15, seq_one q16, seq_one q17, evSs, q18]; rfl
end Hd
set_option Elab.async false
set_option linter.all false
set_option maxRecDepth 100000
set_option maxHeartbeats 0
namespace Hd
open PySem PySem.Spec PyProof.Rows L2
abbrev fa : List He.Fa := Ev.faOf tb sb "law"
abbrev fns : List He.DefD := ds.map (fun df => df.d) ++ [e22.d]
def loose : List Str := ("Fault" :: "Malformed" :: "Refused" :: "is_whole" :: "MOST_PLACES" :: "MOST_WORTH" :: "is_row" :: "check_row" :: "is_place" :: "steps_of" :: "steps" :: "refuse_great" :: "from_steps" :: "backwards" :: "turned" :: "lifted" :: "running" :: "turnings" :: "part" :: "_law_draw" :: "_law_take" :: "_law_says" :: "_law_row" :: "_law_is_row" :: "_law_bent" :: "_law_ask" :: "_law_fits" ::  [] : List Str)
abbrev R : PySem.W.OpenRow := PySem.W.OpenLaw.row PySem.Challenge.rw_slopekinds_k01_rows
abbrev hk : PySem.W.Hook := Ev.hookX 6 fa fns cs xs
def ob (s : PySem.W.SharedT) : Ev.AlX := Ev.obsXG 6 fa fns cs xs (HandSHeadRun.getT s)
theorem ob_eq (s : PySem.W.SharedT) : ob s = hk.obs s.abs := Ev.obsXG_eq (HandSHeadRun.getT_eq s)
theorem run (w : World) : HandSHeadRun.RunEq R (PySem.W.view R.prog [31]) hk ob 20000 loose w := by
  intro os
  kernel_rfl
end Hd
open PySem PySem.W PySem.Calls PyProof.Rows
theorem PySem.Challenge.cw_slopekinds_k01_rows_holds : PySem.Challenge.rw_slopekinds_k01_rows.Holds := by
  w_on; o_law
  refine HandSHeadRun.head_any (r := OpenLaw.row PySem.Challenge.rw_slopekinds_k01_rows) (q := view (OpenLaw.row PySem.Challenge.rw_slopekinds_k01_rows).prog [31]) (H := Hd.hk) (ob := Hd.ob) (M := 20000) (loose := Hd.loose) (d := HandSHeadRun.topDef (OpenLaw.row PySem.Challenge.rw_slopekinds_k01_rows).prog 31) (kwd := []) Hd.ob_eq
    (by kernel_rfl) (fun s => by kernel_rfl) Hd.run (by kernel_rfl) (by kernel_rfl) (by kernel_rfl) (by rfl) (by first | assumption | decide +kernel) (by decide +kernel) ⟨rfl, rfl, rfl, rfl, rfl, by decide +kernel⟩ ?hw ?hc
  case hw => w_witness2
  case hc =>
    refine L2.walk_ofE (l := PySem.Challenge.rw_slopekinds_k01_rows) (n := 63) (k := 12 + 2) (x := "script") (CX := L2.CX0) rfl (by decide) (by kernel_rfl) ⟨rfl, by decide, by decide⟩ ?F (fun _ _ _ _ z => z)
    intro w mg fa h Y G hmg0
    obtain ⟨K, KX, c⟩ := Y
    have hmg : mg ("law" : PySem.Str) = some (.ref fa) := by
      have e : (HandSHeadRun.topDef (OpenLaw.row PySem.Challenge.rw_slopekinds_k01_rows).prog 31).name = ("law" : PySem.Str) := by kernel_rfl
      rw [← e]
      exact hmg0
    obtain ⟨fd, hb, hF⟩ := Ev.head_tab (P0 := (PySem.Challenge.rw_slopekinds_k01_rows).prog) (w := w) (fuel := 100) (n := 12) (dfL := Hd.e22) KX G c hmg (by rfl) (by rfl) (by rfl) Hd.bds Hd.bdL (by rfl) (by rfl) Hd.hP Hd.bL (by decide) rfl rfl rfl (.inr ⟨by kernel_rfl, by kernel_rfl, by kernel_rfl⟩) Hd.holds
    exact ⟨K, fd, Ev.spL K, KX, hb, fun H a ns hl _ hS => ⟨a, ns, rfl, hl, hS, fun _ => rfl⟩, hF⟩
