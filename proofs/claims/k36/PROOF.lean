import PyProof.Rows.All
import Wide.All
import OpenK.AllK
import Wide.FinOn
import KE.KStateDown
import HandS.ForMost
import HandS.WordsExc
import HandS.Defaults
import HandS.Flow
import HandS.Style
import HandS.Gcd
import HandS.Wide
import HandS.TupAny
import HandS.TupMul
import HandS.Conv
import HandS.SortInts
import HandS.NoneIn
import HandS.Star
import HandS.Zip
import HandS.Head0
import HandS.Head1
import HandS.Head2
import HandS.HeadEnd
import HandS.HeadHook1
import HandS.HeadHook2
import PyProof.StrOps2
import HandS.Deep
import PyProof.SliceStr2
import KE.KRevSl
import HandS.IsInst
import HandS.Head3
import PySem.Challenge.RW_wheelandbell_k36_whole_roads_read_from_b
set_option Elab.async false
set_option linter.all false
set_option maxRecDepth 100000
set_option autoImplicit true
set_option maxHeartbeats 4000000
namespace MP
abbrev Tx := List Nat
abbrev Ky := Sum Int Tx
inductive Val where
  | non | bl (b : Bool) | int (i : Int) | str (s : Tx) | tup (l : List Val) | lst (l : List Val)
  | dK (ks : List Ky) (vs : List Val) | dT (ks : List (List Ky)) (vs : List Val) | obj (k : Nat)
  deriving Inhabited
inductive Sl where
  | e | v (x : Val) | o (x : Val)
  deriving Inhabited
abbrev MH := List Val
abbrev Env := List Sl
structure Exn where
  cls : Tx
  val : Val
inductive Res (α : Type) where
  | ok (a : α) (h : MH) | exc (x : Exn) (h : MH) | bad
@[simp] def Res.bind {α β : Type} (r : Res α) (f : α → MH → Res β) : Res β := match r with
  | .ok a h => f a h
  | .exc x h => .exc x h
  | .bad => .bad
@[simp] def Res.noexc {α : Type} (r : Res α) : Res α := match r with
  | .ok a h => .ok a h
  | _ => .bad
@[simp] def opt {α : Type} (o : Option α) (h : MH) : Res α := match o with
  | some a => .ok a h
  | none => .bad
abbrev Fn := List Val → MH → Res Val
inductive BOp where
  | add | sub | mul | fdiv | mod | pow | shl
  deriving DecidableEq
inductive COp where
  | eq | ne | lt | le | gt | ge | isin | notin
  deriving DecidableEq
inductive Blt where
  | len | abs | max2 | min2 | max1 | min1 | sum | all | any | toint | tostr | tuple | list | sorted | gcd | isqrt | repr
  deriving DecidableEq
inductive Mth where
  | join | index | count | get2
  deriving DecidableEq
inductive Ty where
  | bool | int | str | tuple | list
  deriving DecidableEq
inductive Tg where
  | name (i : Nat) | tup (is : List Nat)
mutual
inductive E where
  | var (i : Nat)
  | con (v : Val)
  | glob (v : Val)
  | bin (op : BOp) (a b : E)
  | neg (a : E)
  | cmp (op : COp) (a b : E)
  | chain (op op' : COp) (a b c : E)
  | isN (a : E) | notN (a : E)
  | isB (k : Bool) (neg : Bool) (a : E)
  | band (a b : E) | bor (a b : E) | bnot (a : E)
  | ife (c a b : E)
  | tup (es : Es) | lst (es : Es) | newObj (es : Es)
  | sub (a i : E)
  | slice (a : E) (lo hi : Option Int)
  | sliceE (a : E) (lo hi : Op)
  | rev (a : E)
  | call (f : Nat) (es : Es)
  | blt (b : Blt) (es : Es)
  | meth (m : Mth) (a : E) (es : Es)
  | isinst (a : E) (t : Ty)
  | lrg (t : Bool) (a : E)
  | lrg2 (t : Bool) (a b : E)
  | lc (own : List Nat) (tg : Tg) (it : It) (cond : Op) (elt : E)
inductive Op where
  | no | yes (e : E)
inductive Es where
  | nil | cons (e : E) (es : Es) | star (e : E) (es : Es)
inductive It where
  | seq (e : E) | text (e : E) | rng1 (a : E) | rng2 (a b : E) | rng3 (a b c : E) | enum (a : E) | zip2 (a b : E) | zip4 (a b c d : E)
end
inductive R where
  | e (x : E) | lst (es : Es) | dK | dT | lc (own : List Nat) (tg : Tg) (it : It) (cond : Op) (elt : E)
inductive S where
  | skip
  | seq (a b : S)
  | expr (e : E)
  | asg (i : Nat) (r : R)
  | par (is : List Nat) (rs : List R)
  | unp (is : List Nat) (e : E)
  | setI (b i e : E)
  | setO (s : Nat) (i e : E)
  | app (s : Nat) (e : E)
  | ext (s : Nat) (r : R)
  | ret (e : E)
  | ife (c : E) (a b : S)
  | whl (c : E) (a : S)
  | for_ (tg : Tg) (it : It) (a : S)
  | brk | cont
  | frz (is : List Nat) (a : S)
  | kill (is : List Nat) (a : S)
  | never
def sz : Nat := 16777216
def Val.keyOf : Val → Option Ky
  | .int i => some (.inl i)
  | .str s => some (.inr s)
  | _ => none
def keysOf : List Val → Option (List Ky)
  | [] => some []
  | v :: vs => match v.keyOf, keysOf vs with
    | some k, some ks => some (k :: ks)
    | _, _ => none
def ixN (n : Nat) (i : Int) : Option Nat := if 0 ≤ i then (if i < n then some i.toNat else none) else if -(n : Int) ≤ i then some (i + n).toNat else none
def atI {α : Type} (xs : List α) (i : Int) : Option α := (ixN xs.length i).bind fun j => xs[j]?
def sIx (n d : Nat) : Option Int → Nat
  | none => d
  | some v => if v < 0 then (v + (n : Int)).toNat else min v.toNat n
def cut {α : Type} (xs : List α) (lo hi : Option Int) : List α := (xs.drop (sIx xs.length 0 lo)).take (sIx xs.length xs.length hi - sIx xs.length 0 lo)
def look {κ : Type} [DecidableEq κ] (k : κ) : List κ → List Val → Option Val
  | a :: ks, v :: vs => if a = k then some v else look k ks vs
  | _, _ => none
def put {κ : Type} [DecidableEq κ] (k : κ) (v : Val) : List κ → List Val → List κ × List Val
  | a :: ks, w :: vs => if a = k then (a :: ks, v :: vs) else let r := put k v ks vs; (a :: r.1, w :: r.2)
  | _, _ => ([k], [v])
def hasK {κ : Type} [DecidableEq κ] (k : κ) (ks : List κ) : Bool := ks.any fun a => decide (a = k)
mutual
def eqv : Val → Val → Option Bool
  | .non, .non => some true
  | .bl a, .bl b => some (a == b)
  | .int i, .int j => some (i == j)
  | .str x, .str y => some (x == y)
  | .tup xs, .tup ys => eqvs xs ys
  | .lst xs, .lst ys => eqvs xs ys
  | .non, .bl _ | .non, .int _ | .non, .str _ | .non, .tup _ | .non, .lst _ => some false
  | .bl _, .non | .bl _, .str _ | .bl _, .tup _ | .bl _, .lst _ => some false
  | .int _, .non | .int _, .str _ | .int _, .tup _ | .int _, .lst _ => some false
  | .str _, .non | .str _, .bl _ | .str _, .int _ | .str _, .tup _ | .str _, .lst _ => some false
  | .tup _, .non | .tup _, .bl _ | .tup _, .int _ | .tup _, .str _ | .tup _, .lst _ => some false
  | .lst _, .non | .lst _, .bl _ | .lst _, .int _ | .lst _, .str _ | .lst _, .tup _ => some false
  | _, _ => none
def eqvs : List Val → List Val → Option Bool
  | [], [] => some true
  | x :: xs, y :: ys => match eqv x y, eqvs xs ys with
    | some a, some b => some (a && b)
    | _, _ => none
  | _, _ => some false
end
mutual
def pureLe : Nat → Val → Bool
  | _, .non => true
  | _, .bl _ => true
  | _, .int _ => true
  | _, .str _ => true
  | 0, _ => false
  | n + 1, .tup l => purLes n l
  | n + 1, .lst l => purLes n l
  | _ + 1, _ => false
def purLes : Nat → List Val → Bool
  | _, [] => true
  | n, v :: vs => pureLe n v && purLes n vs
end
def eqo (v w : Val) : Option Bool := if pureLe 60 v && pureLe 60 w then eqv v w else none
def truthV : Val → Option Bool
  | .non => some false
  | .bl b => some b
  | .int i => some (i != 0)
  | .str s => if s.length ≤ sz then some (!s.isEmpty) else none
  | .tup l => some (!l.isEmpty)
  | .lst l => some (!l.isEmpty)
  | .dK ks _ => some (!ks.isEmpty)
  | _ => none
def mulOk (i j : Int) : Bool := decide (i.natAbs.log2 + j.natAbs.log2 < 1000000)
def divOk (j : Int) : Bool := decide (j ≠ 0) && decide (j.natAbs.log2 < 9000)
def powOk (i j : Int) : Bool := decide (0 ≤ j) && decide ((i.natAbs.log2 + 1) * j.toNat ≤ 2 ^ 27)
def shlOk (i j : Int) : Bool := decide (0 ≤ j) && decide (j ≤ 1000000) && decide (i.natAbs < 2 ^ 64)
def reps {α : Type} (l : List α) (n : Int) : List α := (List.replicate n.toNat l).flatten
def repOk (len : Nat) (n : Int) : Bool := decide (n < 2 ^ 30) && decide (-(2 ^ 60) < n) && decide (len ≤ 1000) && decide (len * n.toNat ≤ sz)
def binV : BOp → Val → Val → Option Val
  | .add, .int i, .int j => some (.int (i + j))
  | .add, .str x, .str y => if x.length + y.length ≤ sz then some (.str (x ++ y)) else none
  | .add, .tup x, .tup y => if x.length + y.length ≤ sz then some (.tup (x ++ y)) else none
  | .sub, .int i, .int j => some (.int (i - j))
  | .mul, .int i, .int j => if mulOk i j then some (.int (i * j)) else none
  | .mul, .str x, .int n => if repOk x.length n then some (.str (reps x n)) else none
  | .mul, .tup x, .int n => if x.length ≠ 0 ∧ x.length ≤ 1000 ∧ 2 ≤ n ∧ n ≤ 1000 then some (.tup (reps x n)) else none
  | .fdiv, .int i, .int j => if divOk j then some (.int (i.fdiv j)) else none
  | .mod, .int i, .int j => if decide (j ≠ 0) then some (.int (i.fmod j)) else none
  | .pow, .int i, .int j => if powOk i j then some (.int (i ^ j.toNat)) else none
  | .shl, .int i, .int j => if shlOk i j then some (.int (i * 2 ^ j.toNat)) else none
  | _, _, _ => none
def isIn (v : Val) : List Val → Option Bool
  | [] => some false
  | x :: xs => match eqo x v, isIn v xs with
    | some a, some b => some (a || b)
    | _, _ => none
def flatv : Val → Bool
  | .non => true
  | .bl _ => true
  | .int _ => true
  | .str _ => true
  | _ => false
def isInT (v : Val) (l : List Val) : Option Bool := if flatv v && l.all flatv then isIn v l else none
def isInL (v : Val) (l : List Val) : Option Bool := if (flatv v && l.all flatv) || (pureLe 60 v && pureLe 60 (.lst l)) then isIn v l else none
def cmpV : COp → Val → Val → Option Bool
  | .eq, v, w => eqo v w
  | .ne, v, w => (eqo v w).map not
  | .lt, .int i, .int j => some (decide (i < j))
  | .le, .int i, .int j => some (decide (i ≤ j))
  | .gt, .int i, .int j => some (decide (j < i))
  | .ge, .int i, .int j => some (decide (j ≤ i))
  | .isin, v, .tup l => isInT v l
  | .isin, v, .lst l => isInL v l
  | .isin, v, .dK ks _ => v.keyOf.map fun k => hasK k ks
  | .isin, .tup l, .dT ks _ => (keysOf l).map fun k => hasK k ks
  | .notin, v, .tup l => (isInT v l).map not
  | .notin, v, .lst l => (isInL v l).map not
  | .notin, v, .dK ks _ => v.keyOf.map fun k => !hasK k ks
  | .notin, .tup l, .dT ks _ => (keysOf l).map fun k => !hasK k ks
  | _, _, _ => none
def isNV : Val → Bool
  | .non => true
  | _ => false
def isBV (k : Bool) : Val → Option Bool
  | .bl b => some (b == k)
  | _ => none
def subD : Val → Val → Option Val
  | .tup l, .int i => atI l i
  | .lst l, .int i => atI l i
  | .str x, .int i => if x.length ≤ sz then (atI x i).map fun c => .str [c] else none
  | .dK ks vs, v => v.keyOf.bind fun k => look k ks vs
  | .dT ks vs, .tup l => (keysOf l).bind fun k => look k ks vs
  | _, _ => none
def subV (h : MH) : Val → Val → Option Val
  | .obj k, i => (h[k]?).bind fun o => subD o i
  | v, i => subD v i
def optI : Val → Option (Option Int)
  | .int i => some (some i)
  | _ => none
def slcV (lo hi : Option Int) : Val → Option Val
  | .tup l => some (.tup (cut l lo hi))
  | .lst l => some (.lst (cut l lo hi))
  | .str x => if x.length ≤ sz then some (.str (cut x lo hi)) else none
  | _ => none
def revV : Val → Option Val
  | .tup l => some (.tup l.reverse)
  | .lst l => some (.lst l.reverse)
  | .str x => if x.length ≤ sz then some (.str x.reverse) else none
  | _ => none
def intsOf : List Val → Option (List Int)
  | [] => some []
  | .int i :: vs => (intsOf vs).map (i :: ·)
  | _ :: _ => none
def boolsOf : List Val → Option (List Bool)
  | [] => some []
  | .bl i :: vs => (boolsOf vs).map (i :: ·)
  | _ :: _ => none
def textsOf : List Val → Option (List Tx)
  | [] => some []
  | .str i :: vs => (textsOf vs).map (i :: ·)
  | _ :: _ => none
def joinT (a : Tx) : List Tx → Tx
  | [] => []
  | [x] => x
  | x :: y :: r => x ++ (a ++ joinT a (y :: r))
def lenV : Val → Option Nat
  | .str x => if x.length ≤ sz then some x.length else none
  | .tup l => some l.length
  | .lst l => some l.length
  | .dK ks _ => some ks.length
  | _ => none
def maxI : List Int → Int
  | [] => 0
  | [x] => x
  | x :: y :: r => max x (maxI (y :: r))
def minI : List Int → Int
  | [] => 0
  | [x] => x
  | x :: y :: r => min x (minI (y :: r))
def insI (x : Int) : List Int → List Int
  | [] => [x]
  | y :: r => if x ≤ y then x :: y :: r else y :: insI x r
def sortI : List Int → List Int
  | [] => []
  | x :: r => insI x (sortI r)
def isqrtOk (i : Int) : Bool := decide (0 ≤ i) && decide (i.toNat.log2 < 13000)
def bltV : Blt → List Val → Option Val
  | .len, [v] => (lenV v).map fun n => .int n
  | .abs, [.int i] => some (.int (if i < 0 then -i else i))
  | .max2, [.int i, .int j] => some (.int (if j > i then j else i))
  | .min2, [.int i, .int j] => some (.int (if j < i then j else i))
  | .max1, [.lst l] => (intsOf l).bind fun ns => if ns = [] then none else some (.int (maxI ns))
  | .min1, [.lst l] => (intsOf l).bind fun ns => if ns = [] then none else some (.int (minI ns))
  | .sum, [.lst l] => (intsOf l).map fun ns => .int ns.sum
  | .all, [.lst l] => (boolsOf l).map fun bs => .bl (bs.all id)
  | .any, [.lst l] => (boolsOf l).map fun bs => .bl (bs.any id)
  | .toint, [.int i] => some (.int i)
  | .toint, [.bl b] => some (.int (if b then 1 else 0))
  | .tuple, [.lst l] => some (.tup l)
  | .tuple, [.tup l] => some (.tup l)
  | .list, [.lst l] => some (.lst l)
  | .list, [.tup l] => some (.lst l)
  | .gcd, [.int i, .int j] => some (.int (Nat.gcd i.natAbs j.natAbs : Nat))
  | .isqrt, [.int i] => if isqrtOk i then some (.int (PySem.Float64.isqrt i.toNat : Nat)) else none
  | _, _ => none
def mthV : Mth → Val → List Val → Option Val
  | .join, .str a, [.lst l] => (textsOf l).bind fun ts => if (ts.map (·.length)).sum + ts.length * a.length ≤ sz then some (.str (joinT a ts)) else none
  | .join, .str a, [.tup l] => (textsOf l).bind fun ts => if (ts.map (·.length)).sum + ts.length * a.length ≤ sz then some (.str (joinT a ts)) else none
  | _, _, _ => none
def mthTy : Mth → Val → Bool
  | .join, .str _ => true
  | .index, .lst _ => true
  | .count, .lst _ => true
  | .count, .str _ => true
  | .get2, .dK _ _ => true
  | .get2, .dT _ _ => true
  | _, _ => false
def isinstV (v : Val) (t : Ty) : Option Bool := match v with
  | .non => some false
  | .bl _ => some (decide (t = .bool) || decide (t = .int))
  | .int _ => some (decide (t = .int))
  | .str _ => some (decide (t = .str))
  | .tup _ => some (decide (t = .tuple))
  | .lst _ => some (decide (t = .list))
  | .dK _ _ => some false
  | .dT _ _ => some false
  | .obj _ => none
def getS (η : Env) (i : Nat) : Option Val := match η[i]? with
  | some (.v x) => some x
  | _ => none
def getB (η : Env) (i : Nat) : Option Val := match η[i]? with
  | some (.v x) => some x
  | some (.o x) => some x
  | _ => none
def setv (η : Env) (i : Nat) (s : Sl) : Option Env := if i < η.length then some (η.set i s) else none
def setvs : Env → List Nat → List Sl → Option Env
  | η, [], [] => some η
  | η, i :: is, s :: ss => (setv η i s).bind fun η' => setvs η' is ss
  | _, _, _ => none
def setAll : Env → List Nat → List Val → Option Env
  | η, [], [] => some η
  | η, i :: is, v :: vs => if i < η.length then setAll (η.set i (.v v)) is vs else none
  | _, _, _ => none
def bindT (η : Env) : Tg → Val → Option Env
  | .name i, v => if i < η.length then some (η.set i (.v v)) else none
  | .tup is, .tup vs => setAll η is vs
  | _, _ => none
def wipe (η : Env) : List Nat → Env
  | [] => η
  | i :: is => (wipe η is).set i .e
def frz (η : Env) : List Nat → Env
  | [] => η
  | i :: is => match (frz η is)[i]? with
    | some (.o x) => (frz η is).set i (.v x)
    | _ => frz η is
def rngL (lo : Int) (n : Nat) : List Val := (List.range n).map fun i => .int (lo + (i : Nat))
def enumL : Nat → List Val → List Val
  | _, [] => []
  | k, x :: xs => .tup [.int k, x] :: enumL (k + 1) xs
def zip4L : List Val → List Val → List Val → List Val → List Val
  | a :: as, b :: bs, c :: cs, d :: ds => .tup [a, b, c, d] :: zip4L as bs cs ds
  | _, _, _, _ => []
def rgOk (i j : Int) : Bool := decide (-(2 ^ 62) ≤ i) && decide (i < 2 ^ 62) && decide (-(2 ^ 62) ≤ j) && decide (j < 2 ^ 62)
def mkL (t : Bool) (l : List Val) : Val := if t then .tup l else .lst l
def mapR (f : Val → MH → Res (Option Val)) : List Val → MH → Res (List Val)
  | [], h => .ok [] h
  | x :: xs, h => (f x h).bind fun o h1 => (mapR f xs h1).bind fun r h2 => match o with
    | some v => .ok (v :: r) h2
    | none => .ok r h2
section
variable (T : Nat → Fn)
mutual
def evE (b : Bool) : E → Env → MH → Res Val
  | .var i, η, h => opt (if b then getB η i else getS η i) h
  | .con v, _, h => .ok v h
  | .glob v, _, h => .ok v h
  | .bin op x y, η, h => (evE true x η h).bind fun v h1 => (evE true y η h1).bind fun w h2 => opt (binV op v w) h2
  | .neg x, η, h => (evE true x η h).bind fun v h1 => match v with
    | .int i => .ok (.int (-i)) h1
    | _ => .bad
  | .cmp op x y, η, h => (evE true x η h).bind fun v h1 => (evE true y η h1).bind fun w h2 => opt ((cmpV op v w).map .bl) h2
  | .chain op op' x y z, η, h => (evE true x η h).bind fun v h1 => (evE true y η h1).bind fun w h2 => (opt (cmpV op v w) h2).bind fun c h3 =>
      if c then (evE true z η h3).bind fun u h4 => opt ((cmpV op' w u).map .bl) h4 else .ok (.bl false) h3
  | .isN x, η, h => (evE true x η h).bind fun v h1 => .ok (.bl (isNV v)) h1
  | .notN x, η, h => (evE true x η h).bind fun v h1 => .ok (.bl (!isNV v)) h1
  | .isB k n x, η, h => (evE true x η h).bind fun v h1 => opt ((isBV k v).map fun r => .bl (if n then !r else r)) h1
  | .band x y, η, h => (evE false x η h).bind fun v h1 => (opt (truthV v) h1).bind fun c h2 => if c then evE false y η h2 else .ok v h2
  | .bor x y, η, h => (evE false x η h).bind fun v h1 => (opt (truthV v) h1).bind fun c h2 => if c then .ok v h2 else evE false y η h2
  | .bnot x, η, h => (evE true x η h).bind fun v h1 => (opt (truthV v) h1).bind fun c h2 => .ok (.bl (!c)) h2
  | .ife c x y, η, h => (evE true c η h).bind fun v h1 => (opt (truthV v) h1).bind fun t h2 => if t then evE false x η h2 else evE false y η h2
  | .tup es, η, h => (evEs es η h).bind fun vs h1 => if vs.length ≤ sz then .ok (.tup vs) h1 else .bad
  | .lst es, η, h => (evEs es η h).bind fun vs h1 => if vs.length ≤ sz then .ok (.lst vs) h1 else .bad
  | .newObj es, η, h => (evEs es η h).bind fun vs h1 => if vs.length ≤ sz then .ok (.obj h1.length) (h1 ++ [.lst vs]) else .bad
  | .sub x i, η, h => (evE true x η h).bind fun v h1 => (evE true i η h1).bind fun w h2 => opt (subV h2 v w) h2
  | .slice x lo hi, η, h => (evE true x η h).bind fun v h1 => opt (slcV lo hi v) h1
  | .sliceE x lo hi, η, h => (evE true x η h).bind fun v h1 => (evOp lo η h1).bind fun a h2 => (evOp hi η h2).bind fun c h3 => opt (slcV a c v) h3
  | .rev x, η, h => (evE true x η h).bind fun v h1 => opt (revV v) h1
  | .call f es, η, h => (evEs es η h).bind fun vs h1 => T f vs h1
  | .blt bl es, η, h => (evBs es η h).bind fun vs h1 => opt (bltV bl vs) h1
  | .meth m x es, η, h => (evE true x η h).bind fun v h1 => if mthTy m v then (evBs es η h1).bind fun vs h2 => opt (mthV m v vs) h2 else .bad
  | .isinst x t, η, h => (evE true x η h).bind fun v h1 => opt ((isinstV v t).map .bl) h1
  | .lrg t x, η, h => (evE true x η h).bind fun v h1 => match v with
    | .int j => if rgOk 0 j && decide (j.toNat ≤ sz) then .ok (mkL t (rngL 0 j.toNat)) h1 else .bad
    | _ => .bad
  | .lrg2 t x y, η, h => (evE true x η h).bind fun v h1 => (evE true y η h1).bind fun w h2 => match v, w with
    | .int i, .int j => if rgOk i j && decide ((j - i).toNat ≤ sz) then .ok (mkL t (rngL i (j - i).toNat)) h2 else .bad
    | _, _ => .bad
  | .lc own tg it cond elt, η, h => (evIt true it η h).bind fun xs h1 => (mapR (fun x h => (opt (bindT (wipe η own) tg x) h).bind fun η' h => (evC cond η' h).noexc.bind fun c h =>
      if c then (evE false elt η' h).noexc.bind fun v h => .ok (some v) h else .ok none h) xs h1).bind fun vs h2 => .ok (.lst vs) h2
def evOp : Op → Env → MH → Res (Option Int)
  | .no, _, h => .ok none h
  | .yes e, η, h => (evE true e η h).bind fun v h1 => opt (optI v) h1
def evC : Op → Env → MH → Res Bool
  | .no, _, h => .ok true h
  | .yes e, η, h => (evE true e η h).bind fun v h1 => opt (truthV v) h1
def evEs : Es → Env → MH → Res (List Val)
  | .nil, _, h => .ok [] h
  | .cons e es, η, h => (evE false e η h).bind fun v h1 => (evEs es η h1).bind fun vs h2 => .ok (v :: vs) h2
  | .star e es, η, h => (evE true e η h).bind fun v h1 => match v with
    | .tup l => (evEs es η h1).bind fun vs h2 => .ok (l ++ vs) h2
    | .lst l => (evEs es η h1).bind fun vs h2 => .ok (l ++ vs) h2
    | _ => .bad
def evBs : Es → Env → MH → Res (List Val)
  | .nil, _, h => .ok [] h
  | .cons e es, η, h => (evE true e η h).bind fun v h1 => (evBs es η h1).bind fun vs h2 => .ok (v :: vs) h2
  | .star _ _, _, _ => .bad
def evIt (b : Bool) : It → Env → MH → Res (List Val)
  | .seq e, η, h => (evE b e η h).bind fun v h1 => match v with
    | .tup l => .ok l h1
    | .lst l => .ok l h1
    | .str x => if x.length ≤ sz then .ok (x.map fun c => .str [c]) h1 else .bad
    | _ => .bad
  | .text e, η, h => (evE b e η h).bind fun v h1 => match v with
    | .str x => if x.length ≤ sz then .ok (x.map fun c => .str [c]) h1 else .bad
    | _ => .bad
  | .rng1 e, η, h => (evE true e η h).bind fun v h1 => match v with
    | .int j => if rgOk 0 j && decide (j.toNat ≤ sz) then .ok (rngL 0 j.toNat) h1 else .bad
    | _ => .bad
  | .rng2 e e', η, h => (evE true e η h).bind fun v h1 => (evE true e' η h1).bind fun w h2 => match v, w with
    | .int i, .int j => if rgOk i j && decide ((j - i).toNat ≤ sz) then .ok (rngL i (j - i).toNat) h2 else .bad
    | _, _ => .bad
  | .rng3 _ _ _, _, _ => .bad
  | .enum e, η, h => (evE b e η h).bind fun v h1 => match v with
    | .lst l => if l.length ≤ sz then .ok (enumL 0 l) h1 else .bad
    | _ => .bad
  | .zip2 e e', η, h => (evE b e η h).bind fun v h1 => (evE b e' η h1).bind fun w h2 => match v, w with
    | .lst l, .lst m => if l.length ≤ sz then .ok (List.zipWith (fun x y => .tup [x, y]) l m) h2 else .bad
    | _, _ => .bad
  | .zip4 e e' e2 e3, η, h => (evE b e η h).bind fun v h1 => (evE b e' η h1).bind fun w h2 => (evE b e2 η h2).bind fun v2 h3 => (evE b e3 η h3).bind fun v3 h4 => match v, w, v2, v3 with
    | .lst l, .lst m, .lst l2, .lst l3 => if l.length ≤ sz then .ok (zip4L l m l2 l3) h4 else .bad
    | _, _, _, _ => .bad
end
inductive Fl where
  | nx (η : Env) | rt (v : Val) | bk (η : Env) | ct (η : Env)
def evR : R → Env → MH → Res Sl
  | .e x, η, h => (evE T false x η h).bind fun v h1 => .ok (.v v) h1
  | .lst es, η, h => (evE T false (.lst es) η h).bind fun v h1 => .ok (.o v) h1
  | .dK, _, h => .ok (.o (.dK [] [])) h
  | .dT, _, h => .ok (.o (.dT [] [])) h
  | .lc own tg it cond elt, η, h => (evE T false (.lc own tg it cond elt) η h).bind fun v h1 => .ok (.o v) h1
def evRs : List R → Env → MH → Res (List Sl)
  | [], _, h => .ok [] h
  | r :: rs, η, h => (evR T r η h).bind fun s h1 => (evRs rs η h1).bind fun ss h2 => .ok (s :: ss) h2
def loopF (f : Val → Env → MH → Res Fl) : List Val → Env → MH → Res Fl
  | [], η, h => .ok (.nx η) h
  | x :: xs, η, h => (f x η h).bind fun r h1 => match r with
    | .nx η' => loopF f xs η' h1
    | .ct η' => loopF f xs η' h1
    | .bk η' => .ok (.nx η') h1
    | .rt v => .ok (.rt v) h1
def loopW (c : Env → MH → Res Bool) (f : Env → MH → Res Fl) : Nat → Env → MH → Res Fl
  | 0, _, _ => .bad
  | n + 1, η, h => (c η h).bind fun t h1 => if t then (f η h1).bind fun r h2 => match r with
      | .nx η' => loopW c f n η' h2
      | .ct η' => loopW c f n η' h2
      | .bk η' => .ok (.nx η') h2
      | .rt v => .ok (.rt v) h2
    else .ok (.nx η) h1
open Classical in
noncomputable def whileM (c : Env → MH → Res Bool) (f : Env → MH → Res Fl) (η : Env) (h : MH) : Res Fl :=
  if H : ∃ n, loopW c f n η h ≠ .bad then loopW c f (choose H) η h else .bad
def putV (ck : List (List Ky)) (d k v : Val) : Option Val := match d, k with
  | .lst l, .int i => (ixN l.length i).map fun j => .lst (l.set j v)
  | .dK ks vs, k => k.keyOf.bind fun k => if ks.length < sz then some (let r := put k v ks vs; .dK r.1 r.2) else none
  | .dT ks vs, .tup l => (keysOf l).bind fun k => if ks.length < sz ∧ hasK k ck = false then some (let r := put k v ks vs; .dT r.1 r.2) else none
  | _, _ => none
def ownS (η : Env) (i : Nat) : Option Val := match η[i]? with
  | some (.o x) => some x
  | _ => none
def ownL (η : Env) (i : Nat) : Option (List Val) := match η[i]? with
  | some (.o (.lst l)) => some l
  | _ => none
noncomputable def evS (ck : List (List Ky)) : S → Env → MH → Res Fl
  | .skip, η, h => .ok (.nx η) h
  | .seq a b, η, h => (evS ck a η h).bind fun r h1 => match r with
    | .nx η' => evS ck b η' h1
    | r => .ok r h1
  | .expr e, η, h => (evE T true e η h).bind fun _ h1 => .ok (.nx η) h1
  | .asg i r, η, h => (evR T r η h).bind fun s h1 => (opt (setv η i s) h1).bind fun η' h2 => .ok (.nx η') h2
  | .par is rs, η, h => (evRs T rs η h).bind fun ss h1 => (opt (setvs η is ss) h1).bind fun η' h2 => .ok (.nx η') h2
  | .unp is e, η, h => (evE T false e η h).bind fun v h1 => match v with
    | .tup l => (opt (setAll η is l) h1).bind fun η' h2 => .ok (.nx η') h2
    | .lst l => (opt (setAll η is l) h1).bind fun η' h2 => .ok (.nx η') h2
    | _ => .bad
  | .setI b i e, η, h => (evE T false e η h).bind fun v h1 => (evE T true b η h1).bind fun d h2 => (evE T true i η h2).bind fun k h3 => match d with
    | .obj n => (opt ((h3[n]?).bind fun o => putV ck o k v) h3).bind fun o h4 => .ok (.nx η) (h4.set n o)
    | _ => .bad
  | .setO s i e, η, h => (evE T false e η h).bind fun v h1 => (opt (ownS η s) h1).bind fun d h1 => (evE T true i η h1).bind fun k h2 => (opt (putV ck d k v) h2).bind fun d' h3 => .ok (.nx (η.set s (.o d'))) h3
  | .app s e, η, h => (opt (ownL η s) h).bind fun l h => (evE T false e η h).bind fun v h1 => if l.length < sz then .ok (.nx (η.set s (.o (.lst (l ++ [v]))))) h1 else .bad
  | .ext s r, η, h => (opt (ownL η s) h).bind fun l h => (evR T r η h).bind fun v h1 => match v with
    | .o (.lst m) => if l.length + m.length ≤ sz then .ok (.nx (η.set s (.o (.lst (l ++ m))))) h1 else .bad
    | _ => .bad
  | .ret e, η, h => (evE T false e η h).bind fun v h1 => .ok (.rt v) h1
  | .ife c a b, η, h => (evE T true c η h).bind fun v h1 => (opt (truthV v) h1).bind fun t h2 => if t then evS ck a η h2 else evS ck b η h2
  | .whl c a, η, h => whileM (fun η h => (evE T true c η h).bind fun v h1 => opt (truthV v) h1) (evS ck a) η h
  | .for_ tg it a, η, h => (evIt T false it η h).bind fun xs h1 => loopF (fun x η h => (opt (bindT η tg x) h).bind fun η' h => evS ck a η' h) xs η h1
  | .brk, η, h => .ok (.bk η) h
  | .cont, η, h => .ok (.ct η) h
  | .frz is a, η, h => evS ck a (frz η is) h
  | .kill is a, η, h => (evS ck a η h).bind fun r h1 => match r with
    | .nx η' => .ok (.nx (wipe η' is)) h1
    | r => .ok r h1
  | .never, _, _ => .bad
end
structure Def where
  n : Nat
  np : Nat
  body : S
def startS (n : Nat) (vs : List Val) : Env := vs.map .v ++ List.replicate (n - vs.length) .e
noncomputable def runD (ck : List (List Ky)) (T : Nat → Fn) (d : Def) : Fn := fun vs h => if vs.length = d.np then (evS T ck d.body (startS d.n vs) h).bind fun r h1 => match r with
  | .rt v => .ok v h1
  | .nx _ => .ok .non h1
  | _ => .bad
  else .bad
noncomputable def tab (ck : List (List Ky)) (ds : List Def) : Nat → Nat → Fn
  | 0, _ => fun _ _ => .bad
  | n + 1, i => if i < n then tab ck ds n i else if i = n then match ds[n]? with
      | some d => runD ck (tab ck ds n) d
      | none => fun _ _ => .bad
    else fun _ _ => .bad
end MP
set_option maxHeartbeats 4000000
set_option autoImplicit false
namespace MP
open PySem PySem.Spec PyProof.Rows L2
def tx (l : Tx) : PySem.Str := ⟨l.toArray⟩
theorem tx_inj {a b : Tx} (h : tx a = tx b) : a = b := by
  have e : a.toArray = b.toArray := congrArg Str.cps h
  simpa using congrArg Array.toList e
theorem tx_len (a : Tx) : (tx a).length = a.length := by
  show a.toArray.size = _
  simp
def toKey : Ky → L2.Key
  | .inl i => .inl i
  | .inr s => .inr (tx s)
theorem toKey_inj {a b : Ky} (h : toKey a = toKey b) : a = b := by
  cases a <;> cases b <;> simp only [toKey, Sum.inl.injEq, Sum.inr.injEq, reduceCtorEq] at h
  · rw [h]
  · rw [tx_inj h]
def okT (l : Tx) : Prop := ∀ c ∈ l, c < 0x110000
def off (H : Hp) (M : List Addr) : Hp := fun a => if a ∈ M then none else H a
theorem off_some {H : Hp} {M : List Addr} {a : Addr} {o : HO} : off H M a = some o ↔ a ∉ M ∧ H a = some o := by
  unfold off
  by_cases h : a ∈ M <;> simp [h]
def Ext (H : Hp) (M : List Addr) (H' : Hp) (M' : List Addr) : Prop := ∀ a o, off H M a = some o → off H' M' a = some o
theorem Ext.refl {H : Hp} {M : List Addr} : Ext H M H M := fun _ _ h => h
theorem Ext.trans {H H1 H2 : Hp} {M M1 M2 : List Addr} (a : Ext H M H1 M1) (b : Ext H1 M1 H2 M2) : Ext H M H2 M2 := fun c o h => b c o (a c o h)
structure KC where
  k : PySem.W.Frag
  ck : List (List Ky)
section
variable (K : KC)
mutual
inductive Rep (H : Hp) (ρ : List Addr) : V → Val → Prop
  | non : Rep H ρ .non .non
  | bl (b : Bool) : Rep H ρ (.bl b) (.bl b)
  | int (i : Int) : Rep H ρ (.int i) (.int i)
  | str (x : Tx) (h : okT x) : Rep H ρ (.str (tx x)) (.str x)
  | tup {a : Addr} {Vs : List V} {vs : List Val} (h : H a = some (.tup Vs)) (r : RepL H ρ Vs vs) : Rep H ρ (.ref a) (.tup vs)
  | tupK {a : Addr} {Vs : List V} {vs : List Val} (h : ∃ (o : Obj) (its : Array Value) (n : Nat), K.k.lookup a = some o ∧ o.cls = .type "tuple" ∧ o.data = .seq its n ∧ its.size ≤ sizeLine ∧ Vals Vs its.toList) (c : ∀ k, keysOf vs = some k → hasK k K.ck = true) (r : RepL H ρ Vs vs) : Rep H ρ (.ref a) (.tup vs)
  | lst {a : Addr} {Vs : List V} {vs : List Val} (h : SqL K.k H a Vs) (r : RepL H ρ Vs vs) : Rep H ρ (.ref a) (.lst vs)
  | dK {a : Addr} {ks : List Ky} {Vs : List V} {vs : List Val} (h : H a = some (.dK ((ks.map toKey).zip Vs))) (hl : Vs.length = ks.length) (nd : ks.Nodup) (ok : ∀ k ∈ ks, ∀ s, k = Sum.inr s → okT s) (r : RepL H ρ Vs vs) : Rep H ρ (.ref a) (.dK ks vs)
  | dT {a : Addr} {ks : List (List Ky)} {Vs : List V} {vs : List Val} (h : H a = some (.dT ((ks.map (·.map toKey)).zip Vs))) (hl : Vs.length = ks.length) (nd : ks.Nodup) (r : RepL H ρ Vs vs) : Rep H ρ (.ref a) (.dT ks vs)
  | obj {a : Addr} {k : Nat} (h : ρ[k]? = some a) : Rep H ρ (.ref a) (.obj k)
inductive RepL (H : Hp) (ρ : List Addr) : List V → List Val → Prop
  | nil : RepL H ρ [] []
  | cons {z : V} {Vs : List V} {v : Val} {vs : List Val} (h : Rep H ρ z v) (r : RepL H ρ Vs vs) : RepL H ρ (z :: Vs) (v :: vs)
end
end
section
variable {K : PySem.W.Frag} {H H' : Hp} {M M' ρ ρ' : List Addr}
theorem Rd.ext (e : Ext H M H' M') {a : Addr} {u : HO} (h : Rd (off H M) a u) : Rd (off H' M') a u := by
  rcases h with h | ⟨o, h⟩
  · exact .inl (e _ _ h)
  · exact .inr ⟨o, e _ _ h⟩
theorem SqT.ext (e : Ext H M H' M') {a : Addr} {xs : List V} (h : SqT K (off H M) a xs) : SqT K (off H' M') a xs := by
  rcases h with h | h
  · exact .inl (Rd.ext e h)
  · exact .inr h
theorem SqL.ext (e : Ext H M H' M') {a : Addr} {xs : List V} (h : SqL K (off H M) a xs) : SqL K (off H' M') a xs := by
  rcases h with h | h
  · exact .inl (Rd.ext e h)
  · exact .inr h
theorem Rd.on {a : Addr} {u : HO} (h : Rd (off H M) a u) : Rd H a u := by
  rcases h with h | ⟨o, h⟩
  · exact .inl (off_some.mp h).2
  · exact .inr ⟨o, (off_some.mp h).2⟩
theorem SqT.on {a : Addr} {xs : List V} (h : SqT K (off H M) a xs) : SqT K H a xs := by
  rcases h with h | h
  · exact .inl (Rd.on h)
  · exact .inr h
theorem SqL.on {a : Addr} {xs : List V} (h : SqL K (off H M) a xs) : SqL K H a xs := by
  rcases h with h | h
  · exact .inl (Rd.on h)
  · exact .inr h
end
section
variable {K : KC} {H H' : Hp} {M M' ρ ρ' : List Addr}
mutual
theorem Rep.ext (e : Ext H M H' M') (p : ρ <+: ρ') : ∀ {z : V} {v : Val}, Rep K (off H M) ρ z v → Rep K (off H' M') ρ' z v
  | _, _, .non => .non
  | _, _, .bl b => .bl b
  | _, _, .int i => .int i
  | _, _, .str x h => .str x h
  | _, _, .tup h r => .tup (e _ _ h) (RepL.ext e p r)
  | _, _, .tupK h c r => .tupK h c (RepL.ext e p r)
  | _, _, .lst h r => .lst (SqL.ext e h) (RepL.ext e p r)
  | _, _, .dK h hl nd ok r => .dK (e _ _ h) hl nd ok (RepL.ext e p r)
  | _, _, .dT h hl nd r => .dT (e _ _ h) hl nd (RepL.ext e p r)
  | _, _, .obj h => .obj (by
      obtain ⟨t, rfl⟩ := p
      obtain ⟨h1, _⟩ := List.getElem?_eq_some_iff.mp h
      rw [List.getElem?_append_left h1]
      exact h)
theorem RepL.ext (e : Ext H M H' M') (p : ρ <+: ρ') : ∀ {Vs : List V} {vs : List Val}, RepL K (off H M) ρ Vs vs → RepL K (off H' M') ρ' Vs vs
  | _, _, .nil => .nil
  | _, _, .cons h r => .cons (Rep.ext e p h) (RepL.ext e p r)
end
theorem RepL.length : ∀ {Vs : List V} {vs : List Val}, RepL K H ρ Vs vs → Vs.length = vs.length
  | _, _, .nil => rfl
  | _, _, .cons _ r => by rw [List.length_cons, List.length_cons, RepL.length r]
theorem RepL.get : ∀ {Vs : List V} {vs : List Val} {i : Nat} {v : Val}, RepL K H ρ Vs vs → vs[i]? = some v → ∃ z, Vs[i]? = some z ∧ Rep K H ρ z v
  | _, _, _, _, .nil, e => by simp at e
  | _, _, 0, _, .cons h _, e => by simp at e; subst e; exact ⟨_, rfl, h⟩
  | _, _, i + 1, _, .cons _ r, e => RepL.get (i := i) r (by simpa using e)
theorem RepL.get' : ∀ {Vs : List V} {vs : List Val} {i : Nat} {z : V}, RepL K H ρ Vs vs → Vs[i]? = some z → ∃ v, vs[i]? = some v ∧ Rep K H ρ z v
  | _, _, _, _, .nil, e => by simp at e
  | _, _, 0, _, .cons h _, e => by simp at e; subst e; exact ⟨_, rfl, h⟩
  | _, _, i + 1, _, .cons _ r, e => RepL.get' (i := i) r (by simpa using e)
theorem RepL.append : ∀ {Vs Ws : List V} {vs ws : List Val}, RepL K H ρ Vs vs → RepL K H ρ Ws ws → RepL K H ρ (Vs ++ Ws) (vs ++ ws)
  | _, _, _, _, .nil, s => s
  | _, _, _, _, .cons h r, s => .cons h (RepL.append r s)
theorem RepL.take : ∀ {Vs : List V} {vs : List Val} (n : Nat), RepL K H ρ Vs vs → RepL K H ρ (Vs.take n) (vs.take n)
  | _, _, 0, _ => .nil
  | _, _, _ + 1, .nil => .nil
  | _, _, n + 1, .cons h r => .cons h (RepL.take n r)
theorem RepL.drop : ∀ {Vs : List V} {vs : List Val} (n : Nat), RepL K H ρ Vs vs → RepL K H ρ (Vs.drop n) (vs.drop n)
  | _, _, 0, r => r
  | _, _, _ + 1, .nil => .nil
  | _, _, n + 1, .cons _ r => RepL.drop n r
theorem RepL.set {z : V} {v : Val} (h : Rep K H ρ z v) : ∀ {Vs : List V} {vs : List Val} (n : Nat), RepL K H ρ Vs vs → RepL K H ρ (Vs.set n z) (vs.set n v)
  | _, _, _, .nil => .nil
  | _, _, 0, .cons _ r => .cons h r
  | _, _, n + 1, .cons g r => .cons g (RepL.set h n r)
theorem RepL.reverse : ∀ {Vs : List V} {vs : List Val}, RepL K H ρ Vs vs → RepL K H ρ Vs.reverse vs.reverse
  | _, _, .nil => .nil
  | _, _, .cons h r => by
    rw [List.reverse_cons, List.reverse_cons]
    exact (RepL.reverse r).append (.cons h .nil)
theorem RepL.reps {Vs : List V} {vs : List Val} (r : RepL K H ρ Vs vs) : ∀ n : Nat, RepL K H ρ (List.replicate n Vs).flatten (List.replicate n vs).flatten
  | 0 => .nil
  | n + 1 => by
    rw [List.replicate_succ, List.replicate_succ, List.flatten_cons, List.flatten_cons]
    exact r.append (RepL.reps r n)
theorem RepL.ints : ∀ {Vs : List V} {vs : List Val} {ns : List Int}, RepL K H ρ Vs vs → intsOf vs = some ns → Vs = ns.map V.int
  | _, _, ns, .nil, e => by
    simp only [intsOf, Option.some.injEq] at e
    subst e; rfl
  | _, _, ns, .cons (v := v) h r, e => by
    cases h <;> simp only [intsOf, reduceCtorEq, Option.map_eq_some_iff] at e
    obtain ⟨ms, e1, rfl⟩ := e
    rw [RepL.ints r e1]; rfl
theorem RepL.bools : ∀ {Vs : List V} {vs : List Val} {ns : List Bool}, RepL K H ρ Vs vs → boolsOf vs = some ns → Vs = ns.map V.bl
  | _, _, ns, .nil, e => by
    simp only [boolsOf, Option.some.injEq] at e
    subst e; rfl
  | _, _, ns, .cons (v := v) h r, e => by
    cases h <;> simp only [boolsOf, reduceCtorEq, Option.map_eq_some_iff] at e
    obtain ⟨ms, e1, rfl⟩ := e
    rw [RepL.bools r e1]; rfl
theorem RepL.texts : ∀ {Vs : List V} {vs : List Val} {ns : List Tx}, RepL K H ρ Vs vs → textsOf vs = some ns → Vs = (ns.map tx).map V.str ∧ ∀ t ∈ ns, okT t
  | _, _, ns, .nil, e => by
    simp only [textsOf, Option.some.injEq] at e
    subst e; exact ⟨rfl, fun _ h => by simp at h⟩
  | _, _, ns, .cons (v := v) h r, e => by
    cases h with
    | str x ok =>
      simp only [textsOf, Option.map_eq_some_iff] at e
      obtain ⟨ms, e1, rfl⟩ := e
      obtain ⟨e2, k⟩ := RepL.texts r e1
      rw [e2]
      exact ⟨rfl, fun t ht => by
        rcases List.mem_cons.mp ht with rfl | ht
        · exact ok
        · exact k t ht⟩
    | _ => simp only [textsOf, reduceCtorEq] at e
end
section
variable (K : KC)
def Own (H : Hp) (M ρ : List Addr) (a : Addr) : Val → Prop
  | .lst vs => ∃ Vs, H a = some (.lst Vs) ∧ RepL K (off H M) ρ Vs vs
  | .dK ks vs => ∃ Vs, H a = some (.dK ((ks.map toKey).zip Vs)) ∧ Vs.length = ks.length ∧ ks.Nodup ∧ (∀ k ∈ ks, ∀ s, k = Sum.inr s → okT s) ∧ RepL K (off H M) ρ Vs vs
  | .dT ks vs => ∃ Vs, H a = some (.dT ((ks.map (·.map toKey)).zip Vs)) ∧ Vs.length = ks.length ∧ ks.Nodup ∧ RepL K (off H M) ρ Vs vs
  | _ => False
structure MHR (H : Hp) (M ρ : List Addr) (h : MH) : Prop where
  len : ρ.length = h.length
  nd : ρ.Nodup
  at_ : ∀ (k : Nat) (o : Val) (a : Addr), h[k]? = some o → ρ[k]? = some a → Own K H M ρ a o
structure St (H0 : Hp) (ρ0 B : List Addr) (O ρ : List Addr) (η : Env) (h : MH) (σ : L2.St) (H : Hp) : Prop where
  len : σ.length = η.length
  val : ∀ (i : Nat) (x : Val), η[i]? = some (Sl.v x) → ∃ z, σ[i]? = some (some z) ∧ Rep K (off H (O ++ ρ)) ρ z x
  own : ∀ (i : Nat) (x : Val), η[i]? = some (Sl.o x) → ∃ a, σ[i]? = some (some (V.ref a)) ∧ a ∈ O ∧ a ∉ B ∧ H0 a = none ∧ Own K H (O ++ ρ) ρ a x
  inj : ∀ (i j : Nat) (x y : Val) (a : Addr), η[i]? = some (Sl.o x) → η[j]? = some (Sl.o y) → σ[i]? = some (some (V.ref a)) → σ[j]? = some (some (V.ref a)) → i = j
  sep : ∀ a ∈ O, a ∉ ρ
  liv : ∀ a ∈ O, ∃ o, H a = some o
  bar : ∀ a ∈ B, a ∈ O
  mh : MHR K H (O ++ ρ) ρ h
  pre : ρ0 <+: ρ
  new : ∀ a ∈ ρ.drop ρ0.length, H0 a = none
  keep : ∀ a o, H0 a = some o → a ∉ ρ0 → H a = some o
  ali : ∀ a o, H0 a = some o → ∃ o', H a = some o'
end
structure Grow (ρ : List Addr) (H : Hp) (ρ' : List Addr) (H' : Hp) : Prop where
  pre : ρ <+: ρ'
  new : ∀ a ∈ ρ'.drop ρ.length, H a = none
  keep : ∀ a o, H a = some o → a ∉ ρ → H' a = some o
  liv : ∀ a o, H a = some o → ∃ o', H' a = some o'
section
variable {K : KC} {H H' H1 H2 H0 : Hp} {M M' ρ ρ' ρ1 ρ2 ρ0 B O : List Addr} {η : Env} {h h' : MH} {σ : L2.St}
theorem Grow.refl : Grow ρ H ρ H := ⟨List.prefix_rfl, fun a ha => by simp at ha, fun _ _ e _ => e, fun _ o e => ⟨o, e⟩⟩
theorem mem_drop {ρ ρ' : List Addr} (p : ρ <+: ρ') {a : Addr} (ha : a ∈ ρ') (hn : a ∉ ρ) : a ∈ ρ'.drop ρ.length := by
  obtain ⟨t, rfl⟩ := p
  rw [List.drop_left]
  exact (List.mem_append.mp ha).resolve_left hn
theorem Grow.old (g : Grow ρ H ρ' H') {a : Addr} {o : HO} (e : H a = some o) (hn : a ∉ ρ) : a ∉ ρ' := fun ha => by
  have := g.new a (mem_drop g.pre ha hn)
  rw [e] at this; cases this
theorem Grow.trans (a : Grow ρ H ρ1 H1) (b : Grow ρ1 H1 ρ2 H2) : Grow ρ H ρ2 H2 := by
  refine ⟨a.pre.trans b.pre, fun c hc => ?_, fun c o e hn => b.keep c o (a.keep c o e hn) (a.old e hn), fun c o e => ?_⟩
  · have na := a.new c
    have nb := b.new c
    have la := a.liv c
    obtain ⟨t, rfl⟩ := a.pre
    obtain ⟨u, rfl⟩ := b.pre
    rw [List.append_assoc, List.drop_left] at hc
    rw [List.drop_left] at na nb
    rcases List.mem_append.mp hc with h1 | h1
    · exact na h1
    · cases q : H c with
      | none => rfl
      | some o =>
        obtain ⟨o', e⟩ := la o q
        rw [nb h1] at e; cases e
  · obtain ⟨o1, e1⟩ := a.liv c o e
    exact b.liv c o1 e1
theorem Grow.ext (g : Grow ρ H ρ' H') : Ext H (O ++ ρ) H' (O ++ ρ') := fun a o e => by
  obtain ⟨n, e⟩ := off_some.mp e
  rw [List.mem_append, not_or] at n
  refine off_some.mpr ⟨?_, g.keep a o e n.2⟩
  rw [List.mem_append, not_or]
  exact ⟨n.1, g.old e n.2⟩
theorem Own.grow (g : Grow ρ H ρ' H') {a : Addr} (ha : a ∉ ρ) {x : Val} (w : Own K H (O ++ ρ) ρ a x) : Own K H' (O ++ ρ') ρ' a x := by
  cases x with
  | lst vs =>
    obtain ⟨Vs, e, r⟩ := w
    exact ⟨Vs, g.keep _ _ e ha, r.ext g.ext g.pre⟩
  | dK ks vs =>
    obtain ⟨Vs, e, l, n, k, r⟩ := w
    exact ⟨Vs, g.keep _ _ e ha, l, n, k, r.ext g.ext g.pre⟩
  | dT ks vs =>
    obtain ⟨Vs, e, l, n, r⟩ := w
    exact ⟨Vs, g.keep _ _ e ha, l, n, r.ext g.ext g.pre⟩
  | _ => exact w.elim
theorem St.grow (S : St K H0 ρ0 B O ρ η h σ H) (g : Grow ρ H ρ' H') (m : MHR K H' (O ++ ρ') ρ' h') : St K H0 ρ0 B O ρ' η h' σ H' := by
  refine ⟨S.len, fun i x e => ?_, fun i x e => ?_, S.inj, fun a ha hr => ?_, fun a ha => ?_, S.bar, m, S.pre.trans g.pre, fun a ha => ?_, fun a o e hn => ?_, fun a o e => (S.ali a o e).elim fun o' e' => g.liv a o' e'⟩
  · obtain ⟨z, e1, r⟩ := S.val i x e
    exact ⟨z, e1, r.ext g.ext g.pre⟩
  · obtain ⟨a, e1, ho, hb, h0, w⟩ := S.own i x e
    exact ⟨a, e1, ho, hb, h0, w.grow g (S.sep a ho)⟩
  · obtain ⟨o, e⟩ := S.liv a ha
    exact g.old e (S.sep a ha) hr
  · obtain ⟨o, e⟩ := S.liv a ha
    exact ⟨o, g.keep a o e (S.sep a ha)⟩
  · cases q : H0 a with
    | none => rfl
    | some o =>
      have sn := S.new a
      have gn := g.new a
      obtain ⟨o', q'⟩ := S.ali a o q
      obtain ⟨t, e1⟩ := S.pre
      obtain ⟨u, e2⟩ := g.pre
      subst e1
      subst e2
      rw [List.append_assoc, List.drop_left] at ha
      rw [List.drop_left] at sn gn
      rcases List.mem_append.mp ha with h1 | h1
      · rw [sn h1] at q; cases q
      · rw [gn h1] at q'; cases q'
  · have e1 := S.keep a o e hn
    by_cases hr : a ∈ ρ
    · have := S.new a (mem_drop S.pre hr hn)
      rw [e] at this; cases this
    · exact g.keep a o e1 hr
theorem St.grown (S : St K H0 ρ0 B O ρ η h σ H) : Grow ρ0 H0 ρ H := ⟨S.pre, S.new, S.keep, S.ali⟩
end
end MP
set_option maxHeartbeats 4000000
set_option autoImplicit false
namespace MP
open PySem PySem.Spec PyProof.Rows L2
section
variable (K : KC)
def RepB (H : Hp) (O ρ : List Addr) (b : Bool) (z : V) (v : Val) : Prop :=
  Rep K (off H (O ++ ρ)) ρ z v ∨ (b = true ∧ ∃ a, z = .ref a ∧ a ∈ O ∧ a ∉ ρ ∧ Own K H (O ++ ρ) ρ a v)
def RepR (H : Hp) (M ρ : List Addr) (z : V) (v : Val) : Prop := Rep K (off H M) ρ z v ∨ ∃ a, z = .ref a ∧ Own K H M ρ a v
inductive RepBs (H : Hp) (O ρ : List Addr) (b : Bool) : List V → List Val → Prop
  | nil : RepBs H O ρ b [] []
  | cons {z : V} {zs : List V} {v : Val} {vs : List Val} (h : RepB K H O ρ b z v) (r : RepBs H O ρ b zs vs) : RepBs H O ρ b (z :: zs) (v :: vs)
def ExcR (H : Hp) (M ρ : List Addr) (cls : Value) (d : Option Addr) (x : Exn) : Prop :=
  cls = .ref (He.ga K.k (tx x.cls)) ∧ ∃ dd z, d = some dd ∧ H dd = some (.xd [(("value" : PySem.Str), z)]) ∧ Rep K (off H M) ρ z x.val
def Pst {α β : Type} (W : WX) (σ : L2.St) (O ρ : List Addr) (H : Hp) (Rel : Hp → List Addr → β → α → Prop) (Q : β → Hp → Prop) : Res α → Prop
  | .ok v h' => ∀ (z : β) (ρ' : List Addr) (H' : Hp), Grow ρ H ρ' H' → MHR K H' (O ++ ρ') ρ' h' → Rel H' ρ' z v → Q z H'
  | .exc x h' => ∀ (cls : Value) (d : Option Addr) (ρ' : List Addr) (H' : Hp), Grow ρ H ρ' H' → MHR K H' (O ++ ρ') ρ' h' → ExcR K H' (O ++ ρ') ρ' cls d x → W cls d σ H'
  | .bad => False
end
section
variable {K : KC} {W : WX} {σ : L2.St} {O ρ ρ1 M : List Addr} {H H1 H' : Hp} {α β γ δ : Type} {Rel : Hp → List Addr → β → α → Prop} {Rel2 : Hp → List Addr → δ → γ → Prop} {Q : β → Hp → Prop} {Q2 : δ → Hp → Prop} {h h1 : MH} {b : Bool}
theorem Pst.shift {r : Res α} (g : Grow ρ H ρ1 H1) (p : Pst K W σ O ρ H Rel Q r) : Pst K W σ O ρ1 H1 Rel Q r := by
  cases r with
  | ok v h' => exact fun z ρ' H' g' m r => p z ρ' H' (g.trans g') m r
  | exc x h' => exact fun c d ρ' H' g' m r => p c d ρ' H' (g.trans g') m r
  | bad => exact p
theorem Pst.bind {r : Res α} {f : α → MH → Res γ} (p : Pst K W σ O ρ H Rel2 Q2 (r.bind f))
    (k : ∀ (z : β) (v : α) (ρ1 : List Addr) (H1 : Hp) (h1 : MH), Grow ρ H ρ1 H1 → MHR K H1 (O ++ ρ1) ρ1 h1 → Rel H1 ρ1 z v → Pst K W σ O ρ1 H1 Rel2 Q2 (f v h1) → Q z H1) : Pst K W σ O ρ H Rel Q r := by
  cases r with
  | ok v h' => exact fun z ρ' H' g m rl => k z v ρ' H' h' g m rl (Pst.shift g p)
  | exc x h' => exact p
  | bad => exact p
theorem Pst.ok {v : α} (p : Pst K W σ O ρ H Rel Q (.ok v h)) {z : β} (m : MHR K H (O ++ ρ) ρ h) (r : Rel H ρ z v) : Q z H := p z ρ H Grow.refl m r
theorem Pst.opt {o : Option α} (p : Pst K W σ O ρ H Rel Q (opt o h)) : ∃ v, o = some v ∧ Pst K W σ O ρ H Rel Q (.ok v h) := by
  cases o with
  | none => exact p.elim
  | some v => exact ⟨v, rfl, p⟩
theorem Grow.same (s : Same H H') : Grow ρ H ρ H' := ⟨List.prefix_rfl, fun a ha => by simp at ha, fun a o e _ => s a o e, fun a o e => ⟨o, s a o e⟩⟩
theorem Own.same (s : Same H H') {a : Addr} {x : Val} (w : Own K H (O ++ ρ) ρ a x) : Own K H' (O ++ ρ) ρ a x := by
  have g : Grow ρ H ρ H' := Grow.same s
  cases x with
  | lst vs =>
    obtain ⟨Vs, e, r⟩ := w
    exact ⟨Vs, s _ _ e, r.ext g.ext g.pre⟩
  | dK ks vs =>
    obtain ⟨Vs, e, l, n, k, r⟩ := w
    exact ⟨Vs, s _ _ e, l, n, k, r.ext g.ext g.pre⟩
  | dT ks vs =>
    obtain ⟨Vs, e, l, n, r⟩ := w
    exact ⟨Vs, s _ _ e, l, n, r.ext g.ext g.pre⟩
  | _ => exact w.elim
theorem MHR.same (s : Same H H') (m : MHR K H (O ++ ρ) ρ h) : MHR K H' (O ++ ρ) ρ h := ⟨m.len, m.nd, fun k o a e1 e2 => (m.at_ k o a e1 e2).same s⟩
theorem Same.new {p : Addr} {o : HO} (hp : H p = none) : Same H (upd H p o) := fun b u e => by rw [upd_ne (ne_of_none e hp)]; exact e
theorem Pst.give {v : α} (p : Pst K W σ O ρ H Rel Q (.ok v h)) (m : MHR K H (O ++ ρ) ρ h) (s : Same H H') {z : β} (r : Rel H' ρ z v) : Q z H' := p z ρ H' (Grow.same s) (m.same s) r
theorem Rep.same (s : Same H H') {z : V} {v : Val} (r : Rep K (off H (O ++ ρ)) ρ z v) : Rep K (off H' (O ++ ρ)) ρ z v := r.ext (Grow.ext (Grow.same s)) List.prefix_rfl
theorem RepL.same (s : Same H H') {z : List V} {v : List Val} (r : RepL K (off H (O ++ ρ)) ρ z v) : RepL K (off H' (O ++ ρ)) ρ z v := r.ext (Grow.ext (Grow.same s)) List.prefix_rfl
theorem RepB.grow (g : Grow ρ H ρ1 H1) {z : V} {v : Val} (r : RepB K H O ρ b z v) : RepB K H1 O ρ1 b z v := by
  rcases r with r | ⟨e, a, e1, ho, hn, w⟩
  · exact .inl (r.ext g.ext g.pre)
  · refine .inr ⟨e, a, e1, ho, ?_, w.grow g hn⟩
    cases v with
    | lst vs => obtain ⟨_, q, _⟩ := w; exact g.old q hn
    | dK ks vs => obtain ⟨_, q, _⟩ := w; exact g.old q hn
    | dT ks vs => obtain ⟨_, q, _⟩ := w; exact g.old q hn
    | _ => exact w.elim
theorem RepB.ff {z : V} {v : Val} (r : RepB K H O ρ false z v) : Rep K (off H (O ++ ρ)) ρ z v := r.elim (fun r => r) fun ⟨e, _⟩ => nomatch e
theorem RepBs.grow (g : Grow ρ H ρ1 H1) : ∀ {zs : List V} {vs : List Val}, RepBs K H O ρ b zs vs → RepBs K H1 O ρ1 b zs vs
  | _, _, .nil => .nil
  | _, _, .cons h r => .cons (h.grow g) (RepBs.grow g r)
theorem RepBs.one {zs : List V} {v : Val} (r : RepBs K H O ρ b zs [v]) : ∃ z, zs = [z] ∧ RepB K H O ρ b z v := by
  cases r with
  | cons h r => cases r; exact ⟨_, rfl, h⟩
theorem RepBs.two {zs : List V} {v w : Val} (r : RepBs K H O ρ b zs [v, w]) : ∃ z y, zs = [z, y] ∧ RepB K H O ρ b z v ∧ RepB K H O ρ b y w := by
  cases r with
  | cons h r => obtain ⟨y, rfl, h2⟩ := r.one; exact ⟨_, _, rfl, h, h2⟩
theorem RepB.r {z : V} {v : Val} (r : RepB K H O ρ b z v) : RepR K H (O ++ ρ) ρ z v := r.elim .inl fun ⟨_, a, e, _, _, w⟩ => .inr ⟨a, e, w⟩
theorem RepR.non_ {z : V} (r : RepR K H M ρ z .non) : z = .non := by
  rcases r with r | ⟨_, _, w⟩
  · cases r; rfl
  · exact w.elim
theorem RepR.bl_ {z : V} {k : Bool} (r : RepR K H M ρ z (.bl k)) : z = .bl k := by
  rcases r with r | ⟨_, _, w⟩
  · cases r; rfl
  · exact w.elim
theorem RepR.int_ {z : V} {i : Int} (r : RepR K H M ρ z (.int i)) : z = .int i := by
  rcases r with r | ⟨_, _, w⟩
  · cases r; rfl
  · exact w.elim
theorem RepR.str_ {z : V} {x : Tx} (r : RepR K H M ρ z (.str x)) : z = .str (tx x) ∧ okT x := by
  rcases r with r | ⟨_, _, w⟩
  · cases r with | str _ h => exact ⟨rfl, h⟩
  · exact w.elim
theorem RepR.tup_ {z : V} {l : List Val} (r : RepR K H M ρ z (.tup l)) : ∃ a Vs, z = .ref a ∧ SqT K.k H a Vs ∧ RepL K (off H M) ρ Vs l ∧ Rep K (off H M) ρ (.ref a) (.tup l) := by
  rcases r with r | ⟨_, _, w⟩
  · cases r with
    | tup h r => exact ⟨_, _, rfl, SqT.of (off_some.mp h).2, r, .tup h r⟩
    | tupK h c r => exact ⟨_, _, rfl, .inr h, r, .tupK h c r⟩
  · exact w.elim
theorem RepR.lst_ {z : V} {l : List Val} (r : RepR K H M ρ z (.lst l)) : ∃ a Vs, z = .ref a ∧ SqL K.k H a Vs ∧ RepL K (off H M) ρ Vs l := by
  rcases r with r | ⟨a, e, w⟩
  · cases r with | lst h r => exact ⟨_, _, rfl, SqL.on h, r⟩
  · obtain ⟨Vs, e1, r⟩ := w
    exact ⟨a, Vs, e, SqL.of e1, r⟩
theorem RepR.dK_ {z : V} {ks : List Ky} {l : List Val} (r : RepR K H M ρ z (.dK ks l)) : ∃ a Vs, z = .ref a ∧ H a = some (.dK ((ks.map toKey).zip Vs)) ∧ Vs.length = ks.length ∧ ks.Nodup ∧ (∀ k ∈ ks, ∀ s, k = Sum.inr s → okT s) ∧ RepL K (off H M) ρ Vs l := by
  rcases r with r | ⟨a, e, w⟩
  · cases r with | dK h hl nd ok r => exact ⟨_, _, rfl, (off_some.mp h).2, hl, nd, ok, r⟩
  · obtain ⟨Vs, e1, hl, nd, ok, r⟩ := w
    exact ⟨a, Vs, e, e1, hl, nd, ok, r⟩
theorem RepR.dT_ {z : V} {ks : List (List Ky)} {l : List Val} (r : RepR K H M ρ z (.dT ks l)) : ∃ a Vs, z = .ref a ∧ H a = some (.dT ((ks.map (·.map toKey)).zip Vs)) ∧ Vs.length = ks.length ∧ ks.Nodup ∧ RepL K (off H M) ρ Vs l := by
  rcases r with r | ⟨a, e, w⟩
  · cases r with | dT h hl nd r => exact ⟨_, _, rfl, (off_some.mp h).2, hl, nd, r⟩
  · obtain ⟨Vs, e1, hl, nd, r⟩ := w
    exact ⟨a, Vs, e, e1, hl, nd, r⟩
theorem RepR.obj_ {z : V} {k : Nat} (r : RepR K H M ρ z (.obj k)) : ∃ a, z = .ref a ∧ ρ[k]? = some a := by
  rcases r with r | ⟨_, _, w⟩
  · cases r with | obj h => exact ⟨_, rfl, h⟩
  · exact w.elim
theorem RepB.non_ {z : V} (r : RepB K H O ρ b z .non) : z = .non := r.r.non_
theorem RepB.bl_ {z : V} {k : Bool} (r : RepB K H O ρ b z (.bl k)) : z = .bl k := r.r.bl_
theorem RepB.int_ {z : V} {i : Int} (r : RepB K H O ρ b z (.int i)) : z = .int i := r.r.int_
theorem RepB.str_ {z : V} {x : Tx} (r : RepB K H O ρ b z (.str x)) : z = .str (tx x) ∧ okT x := r.r.str_
theorem RepB.tup_ {z : V} {l : List Val} (r : RepB K H O ρ b z (.tup l)) : ∃ a Vs, z = .ref a ∧ SqT K.k H a Vs ∧ RepL K (off H (O ++ ρ)) ρ Vs l ∧ Rep K (off H (O ++ ρ)) ρ (.ref a) (.tup l) := r.r.tup_
theorem RepB.lst_ {z : V} {l : List Val} (r : RepB K H O ρ b z (.lst l)) : ∃ a Vs, z = .ref a ∧ SqL K.k H a Vs ∧ RepL K (off H (O ++ ρ)) ρ Vs l := r.r.lst_
theorem RepB.dK_ {z : V} {ks : List Ky} {l : List Val} (r : RepB K H O ρ b z (.dK ks l)) : ∃ a Vs, z = .ref a ∧ H a = some (.dK ((ks.map toKey).zip Vs)) ∧ Vs.length = ks.length ∧ ks.Nodup ∧ (∀ k ∈ ks, ∀ s, k = Sum.inr s → okT s) ∧ RepL K (off H (O ++ ρ)) ρ Vs l := r.r.dK_
theorem RepB.dT_ {z : V} {ks : List (List Ky)} {l : List Val} (r : RepB K H O ρ b z (.dT ks l)) : ∃ a Vs, z = .ref a ∧ H a = some (.dT ((ks.map (·.map toKey)).zip Vs)) ∧ Vs.length = ks.length ∧ ks.Nodup ∧ RepL K (off H (O ++ ρ)) ρ Vs l := r.r.dT_
theorem RepB.obj_ {z : V} {k : Nat} (r : RepB K H O ρ b z (.obj k)) : ∃ a, z = .ref a ∧ ρ[k]? = some a := r.r.obj_
theorem RepB.of {z : V} {v : Val} (r : Rep K (off H (O ++ ρ)) ρ z v) : RepB K H O ρ b z v := .inl r
end
section
variable {X : Cx} {e : Expr}
theorem PE.imp {t t' : TE} (h : PE X e t) (k : ∀ (pins : List (Addr × Obj)) (s : Shared) (σ : L2.St) (H : Hp) (Q : VK), Inv X pins σ H s → t' σ H Q → t σ H Q) : PE X e t' :=
  ⟨fun pins s σ H Q I q => h.run pins s σ H Q I (k pins s σ H Q I q)⟩
theorem PT.imp {t t' : TT} (h : PT X e t) (k : ∀ (pins : List (Addr × Obj)) (s : Shared) (σ : L2.St) (H : Hp) (Q : Bool → Hp → Prop), Inv X pins σ H s → t' σ H Q → t σ H Q) : PT X e t' :=
  ⟨fun pins s σ H Q I q => h.run pins s σ H Q I (k pins s σ H Q I q)⟩
theorem PA.imp {es : List Expr} {t t' : TA} (h : PA X es t) (k : ∀ (pins : List (Addr × Obj)) (s : Shared) (σ : L2.St) (H : Hp) (Q : List V → Hp → Prop), Inv X pins σ H s → t' σ H Q → t σ H Q) : PA X es t' :=
  ⟨fun pos pins s σ H Q I q => h.run pos pins s σ H Q I (k pins s σ H Q I q)⟩
theorem PS.imp {st : Stmt} {t t' : TS} (h : PS X st t) (k : ∀ (pins : List (Addr × Obj)) (s : Shared) (σ : L2.St) (H : Hp) (D : Ends), Inv X pins σ H s → t' D σ H → t D σ H) : PS X st t' :=
  ⟨fun pins s σ H D I q => h.run pins s σ H D I (k pins s σ H D I q)⟩
theorem PSs.imp {st : List Stmt} {t t' : TS} (h : PSs X st t) (k : ∀ (pins : List (Addr × Obj)) (s : Shared) (σ : L2.St) (H : Hp) (D : Ends), Inv X pins σ H s → t' D σ H → t D σ H) : PSs X st t' :=
  ⟨fun pins s σ H D I q => h.run pins s σ H D I (k pins s σ H D I q)⟩
end
section
variable (K : KC) (W : WX) (T : Nat → Fn)
def tE (b : Bool) (e : E) : TE := fun σ H Q => ∃ H0 ρ0 B O ρ η h, St K H0 ρ0 B O ρ η h σ H ∧ Pst K W σ O ρ H (fun H' ρ' z v => RepB K H' O ρ' b z v) Q (evE T b e η h)
def evT (b : Bool) (e : E) (η : Env) (h : MH) : Res Bool := (evE T b e η h).bind fun v h1 => opt (truthV v) h1
def tT (b : Bool) (e : E) : TT := fun σ H Q => ∃ H0 ρ0 B O ρ η h, St K H0 ρ0 B O ρ η h σ H ∧ Pst K W σ O ρ H (fun _ _ z v => z = v) Q (evT T b e η h)
def tEs (es : Es) : TA := fun σ H Q => ∃ H0 ρ0 B O ρ η h, St K H0 ρ0 B O ρ η h σ H ∧ Pst K W σ O ρ H (fun H' ρ' z v => RepL K (off H' (O ++ ρ')) ρ' z v) Q (evEs T es η h)
def tBs (es : Es) : TA := fun σ H Q => ∃ H0 ρ0 B O ρ η h, St K H0 ρ0 B O ρ η h σ H ∧ Pst K W σ O ρ H (fun H' ρ' z v => RepBs K H' O ρ' true z v) Q (evBs T es η h)
end
end MP
set_option maxHeartbeats 4000000
set_option autoImplicit false
namespace MP
open PySem PySem.Spec PyProof.Rows L2
theorem sz_line : sz = sizeLine := by rw [sizeLine_eq]; rfl
def bop : BOp → Operator
  | .add => .Add | .sub => .Sub | .mul => .Mult | .fdiv => .FloorDiv | .mod => .Mod | .pow => .Pow | .shl => .LShift
def cop : COp → CmpOp
  | .eq => .Eq | .ne => .NotEq | .lt => .Lt | .le => .LtE | .gt => .Gt | .ge => .GtE | .isin => .In | .notin => .NotIn
section
variable (K : KC)
def Made (O ρ : List Addr) (u : Val) (H : Hp) (Q : VK) : Prop := ∀ z H', Same H H' → Rep K (off H' (O ++ ρ)) ρ z u → Q z H'
def rBin (op : BOp) : R2 := fun x y H Q => ∃ O ρ v w u, binV op v w = some u ∧ RepB K H O ρ true x v ∧ RepB K H O ρ true y w ∧ (∀ a, a ∈ O ++ ρ → ∃ o', H a = some o') ∧ Made K O ρ u H Q
end
section
variable {X : Cx} {ck : List (List Ky)} {O ρ : List Addr} {H : Hp} {Q : VK}
theorem Made.here {K : KC} {u : Val} (m : Made K O ρ u H Q) {z : V} (r : Rep K (off H (O ++ ρ)) ρ z u) : Q z H := m z H (Same.refl H) r
theorem off_new {p : Addr} {o : HO} (hp : H p = none) (al : ∀ a, a ∈ O ++ ρ → ∃ o', H a = some o') : off (upd H p o) (O ++ ρ) p = some o := off_some.mpr ⟨(fun h => by
  obtain ⟨o', e⟩ := al p h
  rw [hp] at e; cases e), upd_same⟩
theorem Made.tup {K : KC} {l : List Val} (m : Made K O ρ (.tup l) H Q) (al : ∀ a, a ∈ O ++ ρ → ∃ o', H a = some o') {Vs : List V} (r : RepL K (off H (O ++ ρ)) ρ Vs l) : ∀ p, H p = none → Q (.ref p) (upd H p (.tup Vs)) := fun p hp =>
  m _ _ (Same.new hp) (.tup (off_new hp al) (r.same (Same.new hp)))
theorem Made.lst {K : KC} {l : List Val} (m : Made K O ρ (.lst l) H Q) (al : ∀ a, a ∈ O ++ ρ → ∃ o', H a = some o') {Vs : List V} (r : RepL K (off H (O ++ ρ)) ρ Vs l) : ∀ p, H p = none → Q (.ref p) (upd H p (.lst Vs)) := fun p hp =>
  m _ _ (Same.new hp) (.lst (SqL.of (off_new hp al)) (r.same (Same.new hp)))
theorem tx_append (a b : Tx) : tx a ++ tx b = tx (a ++ b) := by
  show (⟨a.toArray ++ b.toArray⟩ : PySem.Str) = ⟨(a ++ b).toArray⟩
  simp
theorem okT.append {a b : Tx} (ha : okT a) (hb : okT b) : okT (a ++ b) := fun c hc => (List.mem_append.mp hc).elim (ha c) (hb c)
theorem okT.sub {a b : Tx} (ha : okT a) (h : ∀ c ∈ b, c ∈ a) : okT b := fun c hc => ha c (h c hc)
theorem reps_tx (x : Tx) (n : Nat) : (⟨(List.replicate n (tx x).cps).foldl (· ++ ·) #[]⟩ : PySem.Str) = tx (List.replicate n x).flatten := by
  have key : ∀ (n : Nat) (acc : List Nat), (List.replicate n x.toArray).foldl (· ++ ·) acc.toArray = (acc ++ (List.replicate n x).flatten).toArray := by
    intro n
    induction n with
    | zero => intro acc; simp
    | succ n ih =>
      intro acc
      rw [List.replicate_succ, List.foldl_cons, List.replicate_succ, List.flatten_cons]
      have e : acc.toArray ++ x.toArray = (acc ++ x).toArray := by simp
      rw [e, ih (acc ++ x), List.append_assoc]
  have := key n []
  rw [List.nil_append] at this
  show (⟨(List.replicate n x.toArray).foldl (· ++ ·) #[]⟩ : PySem.Str) = ⟨(List.replicate n x).flatten.toArray⟩
  rw [show (#[] : Array Nat) = ([] : List Nat).toArray from rfl, this]
theorem mem_reps {α : Type} {x : List α} {n : Nat} {c : α} (h : c ∈ (List.replicate n x).flatten) : c ∈ x := by
  obtain ⟨l, hl, hc⟩ := List.mem_flatten.mp h
  rw [List.eq_of_mem_replicate hl] at hc
  exact hc
theorem op_rep_str : OpR X (binaryOp .Mult) (fun x y H Q => ∃ (a : Tx) (n : Int), x = .str (tx a) ∧ y = .int n ∧ repOk a.length n = true ∧ Q (.str (tx (reps a n))) H) := by
  intro pins s σ H x y v u Q I rx ry h
  obtain ⟨a, n, rfl, rfl, ok, q⟩ := h
  obtain ⟨t, rfl⟩ := rx
  obtain ⟨t', rfl⟩ := ry
  unfold repOk at ok
  simp only [Bool.and_eq_true, decide_eq_true_eq] at ok
  obtain ⟨⟨⟨h1, h2⟩, h4⟩, h3⟩ := ok
  have hl : (tx a).length = a.length := tx_len a
  refine PySem.P.mul_str (by
    have e1 : ¬ n < -(2 ^ 63) := by omega
    have e2 : ¬ n ≥ 2 ^ 63 := by omega
    rw [decide_eq_false e1, decide_eq_false e2]; rfl) (fun c1 c2 => ?_) (fun c1 c2 => ?_) ?_
  · rw [hl]
    have h5 : (a.length : Int) ≤ 1000 := by omega
    have h6 : (2 ^ 31 : Int) ≤ (2 ^ 63 - 1) / n := by
      rw [Int.le_ediv_iff_mul_le (by omega)]
      omega
    omega
  · rw [hl]
    unfold Builtin.Str.tooLong
    rw [← sz_line]
    exact decide_eq_false (by omega)
  · by_cases c1 : n < 1
    · rw [if_pos c1]
      refine ⟨by decide, ⟨.str _, H, I.tok _, ⟨s.toks, ?_⟩, q⟩⟩
      have e : reps a n = [] := by
        unfold reps
        rw [Int.toNat_of_nonpos (by omega)]; rfl
      rw [e]; rfl
    · rw [if_neg c1]
      by_cases c2 : (n == 1 || (tx a).length == 0) = true
      · rw [if_pos c2]
        refine ⟨.str _, H, I, ⟨t, ?_⟩, q⟩
        rw [Bool.or_eq_true, beq_iff_eq, beq_iff_eq, hl] at c2
        rcases c2 with c2 | c2
        · subst c2
          simp [reps]
        · have e : a = [] := List.length_eq_zero_iff.mp c2
          subst e
          simp [reps]
      · rw [if_neg c2, reps_tx]
        refine ⟨?_, ⟨.str _, H, I.tok _, ⟨_, rfl⟩, q⟩⟩
        rw [tx_len, ← sz_line, List.length_flatten, List.map_replicate, List.sum_replicate_nat]
        rw [Nat.mul_comm]; exact h3
theorem natAbs_bits (i : Int) : Builtin.Int.intBits i ≤ i.natAbs.log2 + 1 := by
  unfold Builtin.Int.intBits
  split <;> omega
theorem op_bin (op : BOp) : OpR X (binaryOp (bop op)) (rBin ⟨X.K, ck⟩ op) := by
  intro pins s σ H x y v u Q I rx ry h
  obtain ⟨O, ρ, a, b, c, e, ra, rb, al, m⟩ := h
  unfold binV at e
  split at e
  · injection e with e; subst e
    obtain rfl := ra.int_; obtain rfl := rb.int_
    exact op_add pins s σ H _ _ v u Q I rx ry ⟨_, _, rfl, rfl, m.here (.int _)⟩
  · split at e
    · rename_i hz
      injection e with e; subst e
      obtain ⟨rfl, oa⟩ := ra.str_; obtain ⟨rfl, ob⟩ := rb.str_
      refine op_add_str pins s σ H _ _ v u Q I rx ry ⟨_, _, rfl, rfl, by rw [tx_len, tx_len, ← sz_line]; exact hz, ?_⟩
      rw [tx_append]
      exact m.here (.str _ (oa.append ob))
    · cases e
  · split at e
    · rename_i hz
      injection e with e; subst e
      obtain ⟨p, Vs, rfl, h1, r1, g1⟩ := ra.tup_; obtain ⟨q, Ws, rfl, h2, r2, g2⟩ := rb.tup_
      refine op_catA pins s σ H _ _ v u Q I rx ry ⟨p, q, Vs, Ws, rfl, rfl, h1, h2, by rw [r1.length, r2.length, ← sz_line]; exact hz, fun n => ?_, fun _ n => ?_, fun _ _ => m.tup al (r1.append r2)⟩
      · subst n
        cases r1
        exact m.here g2
      · subst n
        cases r2
        rw [List.append_nil] at m
        exact m.here g1
    · cases e
  · injection e with e; subst e
    obtain rfl := ra.int_; obtain rfl := rb.int_
    exact op_sub pins s σ H _ _ v u Q I rx ry ⟨_, _, rfl, rfl, m.here (.int _)⟩
  · split at e
    · rename_i i j hz
      injection e with e; subst e
      obtain rfl := ra.int_; obtain rfl := rb.int_
      exact op_mulW pins s σ H _ _ v u Q I rx ry ⟨_, _, rfl, rfl, (by unfold mulOk at hz; have z := of_decide_eq_true hz; exact z), m.here (.int _)⟩
    · cases e
  · split at e
    · rename_i hz
      injection e with e; subst e
      obtain ⟨rfl, oa⟩ := ra.str_; obtain rfl := rb.int_
      exact op_rep_str pins s σ H _ _ v u Q I rx ry ⟨_, _, rfl, rfl, hz, m.here (.str _ (oa.sub fun c hc => mem_reps hc))⟩
    · cases e
  · split at e
    · rename_i hz
      injection e with e; subst e
      obtain ⟨p, Vs, rfl, h1, r1, g1⟩ := ra.tup_; obtain rfl := rb.int_
      obtain ⟨z1, z2, z3, z4⟩ := hz
      refine op_repT pins s σ H _ _ v u Q I rx ry ⟨p, _, Vs, rfl, rfl, h1, fun n => z1 (by rw [← r1.length, n]; rfl), z3, z4, by rw [r1.length]; exact z2, m.tup al (r1.reps _)⟩
    · cases e
  · split at e
    · rename_i i j hz
      injection e with e; subst e
      obtain rfl := ra.int_; obtain rfl := rb.int_
      obtain ⟨t, rfl⟩ := rx
      obtain ⟨t', rfl⟩ := ry
      unfold divOk at hz
      rw [Bool.and_eq_true, decide_eq_true_eq, decide_eq_true_eq] at hz
      exact floordiv_int hz.1 ⟨.int _, H, I.tok _, ⟨_, rfl⟩, m.here (.int _)⟩ (.inl (PyProof.noPylong_of_log2 hz.2))
    · cases e
  · split at e
    · rename_i i j hz
      injection e with e; subst e
      obtain rfl := ra.int_; obtain rfl := rb.int_
      exact op_modN pins s σ H _ _ v u Q I rx ry ⟨_, _, rfl, rfl, of_decide_eq_true hz, m.here (.int _)⟩
    · cases e
  · split at e
    · rename_i i j hz
      injection e with e; subst e
      obtain rfl := ra.int_; obtain rfl := rb.int_
      obtain ⟨t, rfl⟩ := rx
      obtain ⟨t', rfl⟩ := ry
      unfold powOk at hz
      rw [Bool.and_eq_true, decide_eq_true_eq, decide_eq_true_eq] at hz
      refine pow_int hz.1 ?_ ⟨.int _, H, I.tok _, ⟨_, rfl⟩, m.here (.int _)⟩
      have b1 := natAbs_bits i
      have b2 : Builtin.Int.intBits i * j.toNat ≤ (i.natAbs.log2 + 1) * j.toNat := Nat.mul_le_mul_right _ b1
      have b3 : (Builtin.Int.intBits i : Int) * j = ((Builtin.Int.intBits i * j.toNat : Nat) : Int) := by
        rw [Int.natCast_mul, Int.toNat_of_nonneg hz.1]
      rw [b3]
      have b4 : Builtin.Int.intBits i * j.toNat ≤ 2 ^ 27 := Nat.le_trans b2 hz.2
      exact_mod_cast b4
    · cases e
  · split at e
    · rename_i i j hz
      injection e with e; subst e
      obtain rfl := ra.int_; obtain rfl := rb.int_
      unfold shlOk at hz
      rw [Bool.and_eq_true, Bool.and_eq_true, decide_eq_true_eq, decide_eq_true_eq, decide_eq_true_eq] at hz
      exact op_shl pins s σ H _ _ v u Q I rx ry ⟨_, _, rfl, rfl, ⟨hz.1.1, hz.1.2, hz.2⟩, m.here (.int _)⟩
    · cases e
  · cases e
end
end MP
set_option maxHeartbeats 4000000
set_option autoImplicit false
namespace MP
open PySem PySem.Spec PyProof.Rows L2
mutual
def toD : Val → PyData
  | .non => .none
  | .bl b => .bool b
  | .int i => .int i
  | .str s => .str (tx s)
  | .tup l => .tuple (toDs l)
  | .lst l => .list (toDs l)
  | _ => .none
def toDs : List Val → List PyData
  | [] => []
  | v :: vs => toD v :: toDs vs
end
theorem strOk_tx {s : Tx} (h : okT s) : PyData.strOk (tx s) = true := by
  show (s.toArray.all fun c => decide (c < 0x110000)) = true
  rw [Array.all_eq_true]
  intro i hi
  exact decide_eq_true (h _ (by simp))
section
variable {K : KC} {H : Hp} {M ρ : List Addr}
mutual
theorem Rep.dp : ∀ {z : V} {v : Val} {n : Nat}, Rep K (off H M) ρ z v → pureLe n v = true → Dp K.k H z (toD v) ∧ (toD v).canLay0 = true ∧ (toD v).depth ≤ n
  | _, _, n, .non, _ => ⟨.non, by simp [toD, PyData.canLay0], by simp [toD, PyData.depth]⟩
  | _, _, n, .bl b, _ => ⟨.bl b, by simp [toD, PyData.canLay0], by simp [toD, PyData.depth]⟩
  | _, _, n, .int i, _ => ⟨.int i, by simp [toD, PyData.canLay0], by simp [toD, PyData.depth]⟩
  | _, _, n, .str x h, _ => ⟨.str _, by simp only [toD, PyData.canLay0]; exact strOk_tx h, by simp [toD, PyData.depth]⟩
  | _, _, 0, .tup h r, p => by simp [pureLe] at p
  | _, _, n + 1, .tup h r, p => by
    obtain ⟨a, b, c⟩ := RepL.dp (n := n) r (by simpa [pureLe] using p)
    exact ⟨.tup (SqT.of (off_some.mp h).2) a, by simpa [toD, PyData.canLay0] using b, by simp only [toD, PyData.depth]; omega⟩
  | _, _, 0, .tupK h _ r, p => by simp [pureLe] at p
  | _, _, n + 1, .tupK h _ r, p => by
    obtain ⟨a, b, c⟩ := RepL.dp (n := n) r (by simpa [pureLe] using p)
    exact ⟨.tup (.inr h) a, by simpa [toD, PyData.canLay0] using b, by simp only [toD, PyData.depth]; omega⟩
  | _, _, 0, .lst h r, p => by simp [pureLe] at p
  | _, _, n + 1, .lst h r, p => by
    obtain ⟨a, b, c⟩ := RepL.dp (n := n) r (by simpa [pureLe] using p)
    exact ⟨.lst (SqL.on h) a, by simpa [toD, PyData.canLay0] using b, by simp only [toD, PyData.depth]; omega⟩
  | _, _, 0, .dK .., p => by simp [pureLe] at p
  | _, _, n + 1, .dK .., p => by simp [pureLe] at p
  | _, _, 0, .dT .., p => by simp [pureLe] at p
  | _, _, n + 1, .dT .., p => by simp [pureLe] at p
  | _, _, 0, .obj .., p => by simp [pureLe] at p
  | _, _, n + 1, .obj .., p => by simp [pureLe] at p
theorem RepL.dp : ∀ {zs : List V} {vs : List Val} {n : Nat}, RepL K (off H M) ρ zs vs → purLes n vs = true → DpAll K.k H zs (toDs vs) ∧ PyData.canLayAll0 (toDs vs) = true ∧ PyData.depthAll (toDs vs) ≤ n
  | _, _, n, .nil, _ => ⟨.nil, by simp [toDs, PyData.canLayAll0], by simp [toDs, PyData.depthAll]⟩
  | _, _, n, .cons h r, p => by
    have p' := p
    simp only [purLes, Bool.and_eq_true] at p'
    obtain ⟨a, b, c⟩ := Rep.dp (n := n) h p'.1
    obtain ⟨a2, b2, c2⟩ := RepL.dp (n := n) r p'.2
    exact ⟨.cons a a2, by simp only [toDs, PyData.canLayAll0, b, b2, Bool.and_self], by simp only [toDs, PyData.depthAll]; omega⟩
end
end
theorem tx_beq (a b : Tx) : (tx a == tx b) = (a == b) := by
  by_cases h : a = b
  · subst h; simp
  · have h2 : tx a ≠ tx b := fun e => h (tx_inj e)
    rw [beq_eq_false_iff_ne.mpr h2, beq_eq_false_iff_ne.mpr h]
mutual
theorem eqv_toD : ∀ {v w : Val} {r : Bool} {n m : Nat}, pureLe n v = true → pureLe m w = true → eqv v w = some r → PyData.eqv (toD v) (toD w) = r := by
  intro v w r n m pv pw e
  cases v <;> cases w <;> (try simp only [eqv, Option.some.injEq, reduceCtorEq] at e) <;> (try subst e) <;> (try simp only [toD, PyData.eqv, tx_beq]) <;> (try rfl) <;> (try (cases n <;> simp [pureLe] at pv)) <;> (try (cases m <;> simp [pureLe] at pw))
  · exact eqvs_toDs pv pw e
  · exact eqvs_toDs pv pw e
theorem eqvs_toDs : ∀ {vs ws : List Val} {r : Bool} {n m : Nat}, purLes n vs = true → purLes m ws = true → eqvs vs ws = some r → PyData.eqvAll (toDs vs) (toDs ws) = r
  | [], [], r, n, m, _, _, e => by simp [eqvs] at e; simp [toDs, PyData.eqvAll, e]
  | [], _ :: _, r, n, m, _, _, e => by simp [eqvs] at e; simp [toDs, PyData.eqvAll, e]
  | _ :: _, [], r, n, m, _, _, e => by simp [eqvs] at e; simp [toDs, PyData.eqvAll, e]
  | x :: xs, y :: ys, r, n, m, pv, pw, e => by
    have p1 : pureLe n x = true ∧ purLes n xs = true := by simpa [purLes] using pv
    have p2 : pureLe m y = true ∧ purLes m ys = true := by simpa [purLes] using pw
    simp only [eqvs] at e
    cases e1 : eqv x y with
    | none => rw [e1] at e; simp at e
    | some a =>
      cases e2 : eqvs xs ys with
      | none => rw [e1, e2] at e; simp at e
      | some b =>
        rw [e1, e2] at e
        simp only [Option.some.injEq] at e
        subst e
        simp only [toDs, PyData.eqvAll]
        rw [eqv_toD p1.1 p2.1 e1, eqvs_toDs p1.2 p2.2 e2]
end
section
variable {K : KC} {H : Hp} {O ρ : List Addr}
theorem RepB.dp {z : V} {v : Val} {n : Nat} {b : Bool} (r : RepB K H O ρ b z v) (p : pureLe n v = true) : Dp K.k H z (toD v) ∧ (toD v).canLay0 = true ∧ (toD v).depth ≤ n := by
  rcases r with r | ⟨_, a, rfl, _, _, w⟩
  · exact r.dp p
  · cases v with
    | lst vs =>
      obtain ⟨Vs, e, r⟩ := w
      cases n with
      | zero => simp [pureLe] at p
      | succ n =>
        obtain ⟨a, b, c⟩ := RepL.dp (n := n) r (by simpa [pureLe] using p)
        exact ⟨.lst (SqL.of e) a, by simpa [toD, PyData.canLay0] using b, by simp only [toD, PyData.depth]; omega⟩
    | dK ks vs => cases n <;> simp [pureLe] at p
    | dT ks vs => cases n <;> simp [pureLe] at p
    | _ => exact w.elim
theorem shaped_of {d : PyData} {n : Nat} (h : d.canLay0 = true) (h2 : d.depth ≤ n) (hn : n ≤ 64) : SeqAt.shaped d = true := by
  unfold SeqAt.shaped
  rw [h, Bool.true_and]
  exact decide_eq_true (by omega)
theorem isIn_toD {v : Val} : ∀ {l : List Val} {r : Bool}, isIn v l = some r → ((toDs l).any fun z => PyData.eqv z (toD v)) = r
  | [], r, e => by simp [isIn] at e; simp [toDs, e]
  | x :: xs, r, e => by
    simp only [isIn] at e
    cases e1 : eqo x v with
    | none => rw [e1] at e; simp at e
    | some a =>
      cases e2 : isIn v xs with
      | none => rw [e1, e2] at e; simp at e
      | some b =>
        rw [e1, e2] at e
        simp only [Option.some.injEq] at e
        subst e
        unfold eqo at e1
        split at e1
        · rename_i p
          rw [Bool.and_eq_true] at p
          simp only [toDs, List.any_cons]
          rw [eqv_toD p.1 p.2 e1, isIn_toD e2]
        · cases e1
theorem eqV_flat {z y : V} {v w : Val} {r : Bool} (rz : Rep K (off H (O ++ ρ)) ρ z v) (ry : Rep K (off H (O ++ ρ)) ρ y w) (fv : flatv v = true) (fw : flatv w = true) (e : eqo v w = some r) : L2.flatV z = true ∧ L2.eqV z y = r := by
  unfold eqo at e
  split at e
  · cases rz <;> simp only [flatv, reduceCtorEq] at fv <;> cases ry <;> simp only [flatv, reduceCtorEq] at fw <;> simp only [eqv, Option.some.injEq, reduceCtorEq] at e <;> subst e <;> simp [L2.flatV, L2.eqV, tx_beq]
  · cases e
theorem flat_rep {z : V} {v : Val} (rz : Rep K (off H (O ++ ρ)) ρ z v) (fv : flatv v = true) : L2.flatV z = true := by
  cases rz <;> first | rfl | simp [flatv] at fv
theorem inV_flat {z : V} {v : Val} (rz : Rep K (off H (O ++ ρ)) ρ z v) (fv : flatv v = true) : ∀ {Vs : List V} {vs : List Val} {r : Bool}, RepL K (off H (O ++ ρ)) ρ Vs vs → vs.all flatv = true → isIn v vs = some r → Vs.all L2.flatV = true ∧ L2.inV z Vs = r
  | _, _, r, .nil, _, e => by simp [isIn] at e; simp [L2.inV, e]
  | _, _, r, .cons (v := x) (vs := xs) h t, f, e => by
    rw [List.all_cons, Bool.and_eq_true] at f
    simp only [isIn] at e
    cases e1 : eqo x v with
    | none => rw [e1] at e; simp at e
    | some a =>
      cases e2 : isIn v xs with
      | none => rw [e1, e2] at e; simp at e
      | some b =>
        rw [e1, e2] at e
        simp only [Option.some.injEq] at e
        subst e
        obtain ⟨h1, h2⟩ := eqV_flat h rz f.1 fv e1
        obtain ⟨h3, h4⟩ := inV_flat rz fv t f.2 e2
        refine ⟨by rw [List.all_cons, h1, h3]; rfl, ?_⟩
        unfold L2.inV at h4 ⊢
        rw [List.any_cons, h2, h4]
end
section
variable (K : KC)
def rCmp (op : COp) : R2 := fun x y H Q => ∃ O ρ v w r, cmpV op v w = some r ∧ RepB K H O ρ true x v ∧ RepB K H O ρ true y w ∧ Q (.bl r) H
end
theorem RepB.flat {K : KC} {H : Hp} {O ρ : List Addr} {b : Bool} {z : V} {v : Val} (r : RepB K H O ρ b z v) (f : flatv v = true) : Rep K (off H (O ++ ρ)) ρ z v := by
  rcases r with r | ⟨_, _, _, _, _, w⟩
  · exact r
  · cases v <;> first | exact w.elim | simp [flatv] at f
theorem keyOf_rep {K : KC} {H : Hp} {O ρ : List Addr} {b : Bool} {z : V} {v : Val} {k : Ky} (r : RepB K H O ρ b z v) (e : v.keyOf = some k) : z = kV (toKey k) ∧ ∀ s, k = Sum.inr s → okT s := by
  cases v <;> simp only [Val.keyOf, reduceCtorEq, Option.some.injEq] at e
  · subst e
    exact ⟨r.int_, fun s h => nomatch h⟩
  · subst e
    obtain ⟨h, o⟩ := r.str_
    exact ⟨h, fun s h => by cases h; exact o⟩
theorem find_zip {κ κ' : Type} [DecidableEq κ] [DecidableEq κ'] (f : κ → κ') (inj : ∀ a b, f a = f b → a = b) {k : κ} : ∀ {ks : List κ} {Vs : List V}, Vs.length = ks.length →
    (L2.valV ((ks.map f).zip Vs) (f k)).isSome = hasK k ks
  | [], Vs, _ => by simp [L2.valV, hasK]
  | a :: ks, [], h => by simp at h
  | a :: ks, z :: Vs, h => by
    have ih := find_zip f inj (k := k) (ks := ks) (Vs := Vs) (by simpa using h)
    rw [List.map_cons, List.zip_cons_cons]
    unfold hasK at ih ⊢
    rw [List.any_cons, ← ih]
    by_cases e : a = k
    · subst e
      rw [L2.valV_pos rfl]
      simp
    · have e' : ¬ f a = f k := fun q => e (inj _ _ q)
      rw [L2.valV_neg e', decide_eq_false e, Bool.false_or]
theorem keysOf_rep {K : KC} {H : Hp} {O ρ : List Addr} : ∀ {Vs : List V} {vs : List Val} {ks : List Ky}, RepL K (off H (O ++ ρ)) ρ Vs vs → keysOf vs = some ks → Vs = (ks.map toKey).map kV
  | _, _, ks, .nil, e => by simp [keysOf] at e; subst e; rfl
  | _, _, ks, .cons (v := v) (vs := vs) h t, e => by
    simp only [keysOf] at e
    cases e1 : v.keyOf with
    | none => rw [e1] at e; simp at e
    | some k =>
      cases e2 : keysOf vs with
      | none => rw [e1, e2] at e; simp at e
      | some r =>
        rw [e1, e2] at e
        simp only [Option.some.injEq] at e
        subst e
        rw [(keyOf_rep (b := true) (.inl h) e1).1, keysOf_rep t e2]
        rfl
theorem toKeys_inj : ∀ (a b : List Ky), a.map toKey = b.map toKey → a = b
  | [], [], _ => rfl
  | [], _ :: _, h => by simp at h
  | _ :: _, [], h => by simp at h
  | x :: xs, y :: ys, h => by
    rw [List.map_cons, List.map_cons] at h
    injection h with h1 h2
    rw [toKey_inj h1, toKeys_inj xs ys h2]
section
variable {X : Cx} {pins : List (Addr × Obj)} {σ : L2.St} {H : Hp} {s : Shared} {a b : Addr} {v : V} {A : Around} {E : Value → Shared → Prop} {kvs : List (List L2.Key × V)} {k : List L2.Key}
theorem key_of' (I : L2.Inv X pins σ H s) (hb : SqT X.K H b (k.map kV)) : (tupleKind (mixKind X.prog X.w)).is s.heap k b := by
  obtain ⟨its, rv, ⟨o, h1, h2, n, h3⟩, _⟩ := I.tuple hb
  exact ⟨o, its.toArray, n, h1, h2, h3, by simpa using items_are rv⟩
theorem dT_getItem {Q : Value → Shared → Prop} (hu : A.units + 1 < cLine) (I : L2.Inv X pins σ H s) (e : H a = some (.dT kvs)) (hb : SqT X.K H b (k.map kV)) (l : L2.valV kvs k = some v) (h : ∀ w' s', L2.Inv X pins σ H s' → RelV v w' → Q w' s') :
    wpAny (model X.prog X.w) A (getItem (.ref a) (.ref b)) Q E s := by
  obtain ⟨z, hd, xs, rel, dd⟩ := dt_of I.hok e
  obtain ⟨w', hw, rw'⟩ := RelO.some_of (v := v) (o := (atKey xs k).map (·.2)) (by rw [← l]; exact rel.val k)
  obtain ⟨p, hp, hp2⟩ := Option.map_eq_some_iff.mp hw
  refine wpAny_getItem_heap (tupleKind_room_in1 hu) (key_of' I hb) dd hp ?_
  rw [hp2]
  exact h w' _ (I.tok _) rw'
theorem dT_in {Q : Value → Shared → Prop} (hu : A.units + 1 < cLine) (I : L2.Inv X pins σ H s) (e : H a = some (.dT kvs)) (hb : SqT X.K H b (k.map kV)) (h : ∀ s', L2.Inv X pins σ H s' → Q (.bool (L2.valV kvs k).isSome) s') :
    wpAny (model X.prog X.w) A (compareOp .In (.ref b) (.ref a)) Q E s := by
  obtain ⟨z, hd, xs, rel, dd⟩ := dt_of I.hok e
  refine wpAny_in_heap (tupleKind_room_in1 hu) (key_of' I hb) hd dd ?_
  have q := (rel.val k).isSome_eq
  rw [Option.isSome_map] at q
  rw [← q]
  exact h _ (I.tok _)
theorem dT_notIn {Q : Value → Shared → Prop} (hu : A.units + 1 < cLine) (I : L2.Inv X pins σ H s) (e : H a = some (.dT kvs)) (hb : SqT X.K H b (k.map kV)) (h : ∀ s', L2.Inv X pins σ H s' → Q (.bool (!(L2.valV kvs k).isSome)) s') :
    wpAny (model X.prog X.w) A (compareOp .NotIn (.ref b) (.ref a)) Q E s := by
  obtain ⟨z, hd, xs, rel, dd⟩ := dt_of I.hok e
  refine wpAny_notIn_heap (tupleKind_room_in1 hu) (key_of' I hb) hd dd ?_
  have q := (rel.val k).isSome_eq
  rw [Option.isSome_map] at q
  rw [← q]
  exact h _ (I.tok _)
end
section
variable {X : Cx} {ck : List (List Ky)}
theorem op_cmp (hu : X.A.units + 65 < cLine) (op : COp) : OpR X (compareOp (cop op)) (rCmp ⟨X.K, ck⟩ op) := by
  intro pins s σ H x y vv uu Q I rx ry h
  obtain ⟨O, ρ, v, w, r, e, ra, rb, q⟩ := h
  have hu1 : X.A.units + 1 < cLine := by omega
  have hu64 : X.A.units + 64 < cLine := by omega
  have fin : ∀ {k : Bool} {s' : Shared}, L2.Inv X pins σ H s' → k = r → EP X pins σ Q (.bool k) s' := fun I' ek => by subst ek; exact ⟨.bl _, H, I', rfl, q⟩
  have eq_ : ∀ {r : Bool}, eqo v w = some r → ∃ d f, Dp X.K H x d ∧ Dp X.K H y f ∧ SeqAt.shaped d = true ∧ SeqAt.shaped f = true ∧ PyData.eqv d f = r := fun {r} e => by
    unfold eqo at e
    split at e
    · rename_i p
      rw [Bool.and_eq_true] at p
      obtain ⟨a1, a2, a3⟩ := ra.dp p.1
      obtain ⟨b1, b2, b3⟩ := rb.dp p.2
      exact ⟨_, _, a1, b1, shaped_of a2 a3 (by decide), shaped_of b2 b3 (by decide), eqv_toD p.1 p.2 e⟩
    · cases e
  have inT : ∀ {l : List Val} {r : Bool}, w = .tup l → isInT v l = some r → ∃ p xs, y = .ref p ∧ (SqL X.K H p xs ∨ SqT X.K H p xs) ∧ L2.flatV x = true ∧ xs.all L2.flatV = true ∧ L2.inV x xs = r := fun {l r} ew e0 => by
    subst ew
    unfold isInT at e0
    split at e0
    · rename_i p
      rw [Bool.and_eq_true] at p
      obtain ⟨a, Vs, rfl, h1, h2, _⟩ := rb.tup_
      obtain ⟨f1, f2⟩ := inV_flat (ra.flat p.1) p.1 h2 p.2 e0
      exact ⟨a, Vs, rfl, .inr h1, flat_rep (ra.flat p.1) p.1, f1, f2⟩
    · cases e0
  have inL : ∀ {l : List Val} {r : Bool}, w = .lst l → isInL v l = some r → (∃ p xs, y = .ref p ∧ (SqL X.K H p xs ∨ SqT X.K H p xs) ∧ L2.flatV x = true ∧ xs.all L2.flatV = true ∧ L2.inV x xs = r) ∨
      ∃ d ds, Dp X.K H x d ∧ Dp X.K H y (.list ds) ∧ SeqAt.shaped d = true ∧ SeqAt.shaped (.list ds) = true ∧ (ds.any fun z => PyData.eqv z d) = r := fun {l r} ew e0 => by
    subst ew
    unfold isInL at e0
    split at e0
    · rename_i p
      rw [Bool.or_eq_true] at p
      rcases p with p | p
      · rw [Bool.and_eq_true] at p
        obtain ⟨a, Vs, rfl, h1, h2⟩ := rb.lst_
        obtain ⟨f1, f2⟩ := inV_flat (ra.flat p.1) p.1 h2 p.2 e0
        exact .inl ⟨a, Vs, rfl, .inl h1, flat_rep (ra.flat p.1) p.1, f1, f2⟩
      · rw [Bool.and_eq_true] at p
        obtain ⟨a1, a2, a3⟩ := ra.dp p.1
        obtain ⟨b1, b2, b3⟩ := rb.dp p.2
        exact .inr ⟨_, _, a1, b1, shaped_of a2 a3 (by decide), shaped_of b2 b3 (by decide), isIn_toD e0⟩
    · cases e0
  unfold cmpV at e
  split at e
  · obtain ⟨d, f, a1, a2, a3, a4, a5⟩ := eq_ e
    exact op_eqD hu64 pins s σ H x y vv uu Q I rx ry ⟨d, f, a1, a2, a3, a4, by rw [a5]; exact q⟩
  · obtain ⟨r', e', rfl⟩ := Option.map_eq_some_iff.mp e
    obtain ⟨d, f, a1, a2, a3, a4, a5⟩ := eq_ e'
    exact op_neD hu64 pins s σ H x y vv uu Q I rx ry ⟨d, f, a1, a2, a3, a4, by rw [a5]; exact q⟩
  · injection e with e; subst e
    obtain rfl := ra.int_; obtain rfl := rb.int_
    exact op_lt pins s σ H _ _ vv uu Q I rx ry ⟨_, _, rfl, rfl, q⟩
  · injection e with e; subst e
    obtain rfl := ra.int_; obtain rfl := rb.int_
    exact op_le pins s σ H _ _ vv uu Q I rx ry ⟨_, _, rfl, rfl, q⟩
  · injection e with e; subst e
    obtain rfl := ra.int_; obtain rfl := rb.int_
    exact op_gt pins s σ H _ _ vv uu Q I rx ry ⟨_, _, rfl, rfl, q⟩
  · injection e with e; subst e
    obtain rfl := ra.int_; obtain rfl := rb.int_
    exact op_ge pins s σ H _ _ vv uu Q I rx ry ⟨_, _, rfl, rfl, q⟩
  · obtain ⟨p, xs, h1, h2, h3, h4, h5⟩ := inT rfl e
    exact op_in_seq pins s σ H x y vv uu Q I rx ry ⟨p, xs, h1, h2, h3, h4, by rw [h5]; exact q⟩
  · rcases inL rfl e with ⟨p, xs, h1, h2, h3, h4, h5⟩ | ⟨d, ds, h1, h2, h3, h4, h5⟩
    · exact op_in_seq pins s σ H x y vv uu Q I rx ry ⟨p, xs, h1, h2, h3, h4, by rw [h5]; exact q⟩
    · exact op_inD hu pins s σ H x y vv uu Q I rx ry ⟨d, ds, h1, h2, h3, h4, by rw [h5]; exact q⟩
  · obtain ⟨k, ek, rfl⟩ := Option.map_eq_some_iff.mp e
    obtain ⟨a, Vs, rfl, h1, h2, _⟩ := rb.dK_
    obtain ⟨rfl, _⟩ := keyOf_rep ra ek
    cases ry
    exact d_in hu1 I (DGet.k h1) rx fun s' I' => fin I' (find_zip toKey (fun _ _ => toKey_inj) h2)
  · obtain ⟨k, ek, rfl⟩ := Option.map_eq_some_iff.mp e
    obtain ⟨a, Vs, rfl, h1, h2, _⟩ := rb.dT_
    obtain ⟨p, Ws, rfl, g1, g2, _⟩ := ra.tup_
    cases ry; cases rx
    rw [keysOf_rep g2 ek] at g1
    exact dT_in hu1 I h1 g1 fun s' I' => fin I' (find_zip (fun l : List Ky => l.map toKey) toKeys_inj h2)
  · obtain ⟨r', e', rfl⟩ := Option.map_eq_some_iff.mp e
    obtain ⟨p, xs, h1, h2, h3, h4, h5⟩ := inT rfl e'
    exact op_notIn_seq pins s σ H x y vv uu Q I rx ry ⟨p, xs, h1, h2, h3, h4, by rw [h5]; exact q⟩
  · obtain ⟨r', e', rfl⟩ := Option.map_eq_some_iff.mp e
    rcases inL rfl e' with ⟨p, xs, h1, h2, h3, h4, h5⟩ | ⟨d, ds, h1, h2, h3, h4, h5⟩
    · exact op_notIn_seq pins s σ H x y vv uu Q I rx ry ⟨p, xs, h1, h2, h3, h4, by rw [h5]; exact q⟩
    · exact op_notInD hu pins s σ H x y vv uu Q I rx ry ⟨d, ds, h1, h2, h3, h4, by rw [h5]; exact q⟩
  · obtain ⟨k, ek, rfl⟩ := Option.map_eq_some_iff.mp e
    obtain ⟨a, Vs, rfl, h1, h2, _⟩ := rb.dK_
    obtain ⟨rfl, _⟩ := keyOf_rep ra ek
    cases ry
    exact d_notIn hu1 I (DGet.k h1) rx fun s' I' => fin I' (congrArg not (find_zip toKey (fun _ _ => toKey_inj) h2))
  · obtain ⟨k, ek, rfl⟩ := Option.map_eq_some_iff.mp e
    obtain ⟨a, Vs, rfl, h1, h2, _⟩ := rb.dT_
    obtain ⟨p, Ws, rfl, g1, g2, _⟩ := ra.tup_
    cases ry; cases rx
    rw [keysOf_rep g2 ek] at g1
    exact dT_notIn hu1 I h1 g1 fun s' I' => fin I' (congrArg not (find_zip (fun l : List Ky => l.map toKey) toKeys_inj h2))
  · cases e
end
end MP
set_option maxHeartbeats 4000000
set_option autoImplicit false
namespace MP
open PySem PySem.Spec PyProof.Rows L2
section
variable {K : KC} {H : Hp} {O ρ : List Addr} {b : Bool}
theorem zip_isEmpty {κ : Type} {ks : List κ} {Vs : List V} (h : Vs.length = ks.length) : (ks.zip Vs).isEmpty = ks.isEmpty := by
  cases ks with
  | nil => rfl
  | cons a ks => cases Vs with
    | nil => simp at h
    | cons z Vs => rfl
theorem RepL.isEmpty : ∀ {Vs : List V} {vs : List Val}, RepL K H ρ Vs vs → Vs.isEmpty = vs.isEmpty
  | _, _, .nil => rfl
  | _, _, .cons _ _ => rfl
theorem tru_of {z : V} {v : Val} {k : Bool} (r : RepB K H O ρ b z v) (e : truthV v = some k) : TruV K.k z H k := by
  cases v <;> simp only [truthV, Option.some.injEq, reduceCtorEq] at e
  · subst e; rw [r.non_]; rfl
  · subst e; rw [r.bl_]; rfl
  · subst e; rw [r.int_]; rfl
  · split at e
    · injection e with e
      subst e
      rename_i hz
      rw [r.str_.1]
      refine ⟨by rw [tx_len, ← sz_line]; exact hz, ?_⟩
      rw [tx_len]
      rename_i s
      cases s <;> simp <;> omega
    · cases e
  · subst e
    obtain ⟨a, Vs, rfl, h1, h2, _⟩ := r.tup_
    exact .inr (.inl ⟨Vs, h1, by rw [h2.isEmpty]⟩)
  · subst e
    obtain ⟨a, Vs, rfl, h1, h2⟩ := r.lst_
    exact .inl ⟨Vs, h1, by rw [h2.isEmpty]⟩
  · subst e
    obtain ⟨a, Vs, rfl, h1, h2, _⟩ := r.dK_
    refine .inr (.inr ⟨_, h1, ?_⟩)
    rw [zip_isEmpty (by rw [List.length_map]; exact h2)]
    simp
theorem ixN_eq (n : Nat) (i : Int) : ixN n i = L2.ixN n i := rfl
theorem RepL.atI {Vs : List V} {vs : List Val} {i : Int} {v : Val} (r : RepL K H ρ Vs vs) (e : atI vs i = some v) : ∃ z, L2.atI Vs i = some z ∧ Rep K H ρ z v := by
  unfold MP.atI at e
  unfold L2.atI
  rw [r.length]
  rw [ixN_eq] at e
  cases q : L2.ixN vs.length i with
  | none => rw [q] at e; cases e
  | some j =>
    rw [q] at e
    exact r.get e
theorem look_zip {κ κ' : Type} [DecidableEq κ] [DecidableEq κ'] (f : κ → κ') (inj : ∀ a b, f a = f b → a = b) {k : κ} : ∀ {ks : List κ} {Vs : List V} {vs : List Val} {v : Val}, Vs.length = ks.length → RepL K H ρ Vs vs → look k ks vs = some v →
    ∃ z, L2.valV ((ks.map f).zip Vs) (f k) = some z ∧ Rep K H ρ z v
  | [], _, vs, v, _, _, e => by cases vs <;> simp [look] at e
  | a :: ks, [], vs, v, h, _, e => by simp at h
  | a :: ks, z :: Vs, _, v, h, .cons (v := w) (vs := ws) r t, e => by
    rw [List.map_cons, List.zip_cons_cons]
    by_cases c : a = k
    · subst c
      simp [look] at e
      subst e
      exact ⟨z, L2.valV_pos rfl, r⟩
    · simp only [look, if_neg c] at e
      rw [L2.valV_neg (fun q => c (inj _ _ q))]
      exact look_zip f inj (by simpa using h) t e
theorem cut_eq (Vs : List V) (lo hi : Option Int) : L2.cutV Vs lo hi = cut Vs lo hi := by
  have e : ∀ n d o, HT.sIx n d o = sIx n d o := fun n d o => by cases o <;> rfl
  unfold L2.cutV cut
  rw [e, e]
theorem RepL.cut {Vs : List V} {vs : List Val} (r : RepL K H ρ Vs vs) (lo hi : Option Int) : RepL K H ρ (cut Vs lo hi) (cut vs lo hi) := by
  unfold MP.cut
  rw [r.length]
  exact (r.drop _).take _
theorem cutS_eq (x : Tx) (lo hi : Option Int) : L2.cutS (tx x) lo hi = tx (cut x lo hi) := by
  have e : ∀ n d o, HT.sIx n d o = sIx n d o := fun n d o => by cases o <;> rfl
  unfold L2.cutS
  rw [tx_len, e, e]
  show (⟨((x.toArray.toList.drop _).take _).toArray⟩ : PySem.Str) = ⟨(cut x lo hi).toArray⟩
  unfold MP.cut
  simp
theorem mem_cut {α : Type} {x : List α} {lo hi : Option Int} {c : α} (h : c ∈ cut x lo hi) : c ∈ x := List.mem_of_mem_drop (List.mem_of_mem_take h)
end
section
variable (K : KC)
def rSub : R2 := fun x y H Q => ∃ O ρ h v w u, subV h v w = some u ∧ RepB K H O ρ true x v ∧ RepB K H O ρ true y w ∧ MHR K H (O ++ ρ) ρ h ∧ (∀ z, Rep K (off H (O ++ ρ)) ρ z u → Q z H)
def rSlc : V → Option Int → Option Int → Hp → VK → Prop := fun x lo hi H Q => ∃ O ρ v u, slcV lo hi v = some u ∧ RepB K H O ρ true x v ∧ (∀ a, a ∈ O ++ ρ → ∃ o', H a = some o') ∧ Made K O ρ u H Q
end
section
variable {X : Cx} {ck : List (List Ky)}
theorem subD_ok (hu : X.A.units + 1 < cLine) {K : KC} (hK : K.k = X.K) (value slice : Expr) (pins : List (Addr × Obj)) (s : Shared) (σ : L2.St) (H : Hp) (x y : V) (vv uu : Value) (Q : VK) {O ρ : List Addr} {b' : Bool} {v w u : Val} (I : L2.Inv X pins σ H s) (rx : RelV x vv) (ry : RelV y uu)
    (e : subD v w = some u) (ra : RepR K H (O ++ ρ) ρ x v) (rb : RepB K H O ρ b' y w) (q : ∀ z, Rep K (off H (O ++ ρ)) ρ z u → Q z H) (hs : subscripted slice false vv uu = operate [vv, uu] (getItem vv uu)) :
    wpAny (model X.prog X.w) X.A (subscriptTail value slice vv uu) (EP X pins σ Q) X.xe s := by
  unfold subD at e
  split at e
  · obtain ⟨a, Vs, rfl, h1, h2, _⟩ := ra.tup_
    obtain rfl := rb.int_
    obtain ⟨z, e1, e2⟩ := h2.atI e
    rw [hK] at h1
    exact ix_tup value slice pins s σ H _ _ vv uu Q I rx ry ⟨a, Vs, _, z, rfl, rfl, h1, e1, q z e2⟩ hs
  · obtain ⟨a, Vs, rfl, h1, h2⟩ := ra.lst_
    obtain rfl := rb.int_
    obtain ⟨z, e1, e2⟩ := h2.atI e
    rw [hK] at h1
    exact ix_list value slice pins s σ H _ _ vv uu Q I rx ry ⟨a, Vs, _, z, rfl, rfl, h1, e1, q z e2⟩ hs
  · split at e
    · rename_i i hz
      obtain ⟨c, ec, rfl⟩ := Option.map_eq_some_iff.mp e
      obtain ⟨rfl, ok⟩ := ra.str_
      obtain rfl := rb.int_
      refine ix_str value slice pins s σ H _ _ vv uu Q I rx ry ⟨tx _, _, c, rfl, rfl, by rw [tx_len, ← sz_line]; exact hz, ?_, q _ (.str [c] ?_)⟩ hs
      · show L2.atI (List.toArray _).toList _ = some c
        rw [List.toList_toArray]
        exact ec
      · intro d hd
        rw [List.mem_singleton] at hd
        subst hd
        unfold MP.atI at ec
        obtain ⟨j, _, ej⟩ := Option.bind_eq_some_iff.mp ec
        exact ok _ (List.mem_of_getElem? ej)
    · cases e
  · obtain ⟨k, ek, e⟩ := Option.bind_eq_some_iff.mp e
    obtain ⟨a, Vs, rfl, h1, h2, _, _, h3⟩ := ra.dK_
    obtain ⟨rfl, _⟩ := keyOf_rep rb ek
    obtain ⟨z, e1, e2⟩ := look_zip toKey (fun _ _ => toKey_inj) h2 h3 e
    cases rx
    have g : DGet H a (kV (toKey k)) (some z) := by rw [← e1]; exact DGet.k h1
    exact tail_any (dict_typeIs I g) PySem.F.slot_dict_getitem.lookup (d_getItem hu I g ry fun w' s3 I3 rw' => ⟨z, H, I3, rw', q z e2⟩) hs
  · obtain ⟨k, ek, e⟩ := Option.bind_eq_some_iff.mp e
    obtain ⟨a, Vs, rfl, h1, h2, _, h3⟩ := ra.dT_
    obtain ⟨p, Ws, rfl, g1, g2, _⟩ := rb.tup_
    rw [hK, keysOf_rep g2 ek] at g1
    obtain ⟨z, e1, e2⟩ := look_zip (fun l : List Ky => l.map toKey) toKeys_inj h2 h3 e
    cases rx; cases ry
    obtain ⟨_, hS, xs, r, dd⟩ := dt_of I.hok h1
    exact tail_any dd.typeIs PySem.F.slot_dict_getitem.lookup (dT_getItem hu I h1 g1 e1 fun w' s3 I3 rw' => ⟨z, H, I3, rw', q z e2⟩) hs
  · cases e
theorem ix_sub (hu : X.A.units + 1 < cLine) : IxR X (rSub ⟨X.K, ck⟩) := by
  intro value slice pins s σ H x y vv uu Q I rx ry h hs
  obtain ⟨O, ρ, hp, v, w, u, e, ra, rb, m, q⟩ := h
  unfold subV at e
  split at e
  · obtain ⟨o, eo, e⟩ := Option.bind_eq_some_iff.mp e
    obtain ⟨a, rfl, ha⟩ := ra.obj_
    have w := m.at_ _ _ _ eo ha
    exact subD_ok hu rfl value slice pins s σ H _ y vv uu Q I rx ry e (.inr ⟨a, rfl, w⟩) rb q hs
  · exact subD_ok hu rfl value slice pins s σ H x y vv uu Q I rx ry e ra.r rb q hs
theorem sl_all : SlR X (rSlc ⟨X.K, ck⟩) := by
  intro pins s σ H x vv vl vu lo hi sl Q I rx hs pl pu h
  obtain ⟨O, ρ, v, u, e, r, al, m⟩ := h
  unfold slcV at e
  split at e
  · injection e with e; subst e
    obtain ⟨a, Vs, rfl, h1, h2, h3⟩ := r.tup_
    refine sl_tupA pins s σ H _ vv vl vu lo hi sl Q I rx hs pl pu ⟨a, Vs, rfl, h1, fun hw => ?_, fun _ => ?_⟩
    · have e : cut Vs lo hi = Vs := by
        rw [← cut_eq]
        unfold L2.cutV
        rw [hw.1, hw.2, List.drop_zero, Nat.sub_zero, List.take_length]
      have e2 : cut (‹List Val›) lo hi = ‹List Val› := by
        have e1 : ∀ n d o, HT.sIx n d o = sIx n d o := fun n d o => by cases o <;> rfl
        have w1 := hw.1
        have w2 := hw.2
        rw [e1, h2.length] at w1 w2
        unfold MP.cut
        rw [w1, w2, List.drop_zero, Nat.sub_zero, List.take_length]
      rw [e2] at m
      exact m.here h3
    · rw [cut_eq]
      exact m.tup al (h2.cut lo hi)
  · injection e with e; subst e
    obtain ⟨a, Vs, rfl, h1, h2⟩ := r.lst_
    refine sl_list pins s σ H _ vv vl vu lo hi sl Q I rx hs pl pu ⟨a, Vs, rfl, h1, ?_⟩
    rw [cut_eq]
    exact m.lst al (h2.cut lo hi)
  · split at e
    · rename_i hz
      injection e with e; subst e
      obtain ⟨rfl, ok⟩ := r.str_
      refine sl_str pins s σ H _ vv vl vu lo hi sl Q I rx hs pl pu ⟨tx _, rfl, by rw [tx_len, ← sz_line]; exact hz, ?_⟩
      rw [cutS_eq]
      exact m.here (.str _ (ok.sub fun c hc => mem_cut hc))
    · cases e
  · cases e
end
end MP
set_option maxHeartbeats 4000000
set_option autoImplicit false
namespace MP
open PySem PySem.Spec PyProof.Rows L2
section
variable {prog : Program} {w : World} {A : Around} {E : Value → Shared → Prop} {s : Shared}
theorem sliceApplied_rev {sl : Addr} {vl vu : Value} {t : Tok} {n : Nat} {Q : Int × Int × Nat → Shared → Prop} (hs : s.heap.IsSliceOf sl vl vu (.int (-1) t)) (pl : IsPart vl none) (pu : IsPart vu none)
    (h : Q ((n : Int) - 1, -1, n) s) : wpAny (model prog w) A (Builtin.Slice.sliceApplied (.ref sl) (pure (n : Int))) Q E s := by
  obtain ⟨os, hos, hcs, hds⟩ := id hs
  unfold Builtin.Slice.sliceApplied Builtin.Slice.sliceFields
  refine wpAny_bind (wpAny_bind (wpAny_field hos hds (x := vl) rfl (wpAny_bind (wpAny_field hos hds (x := vu) rfl (wpAny_bind (wpAny_field hos hds (x := .int (-1) t) rfl (wpAny_pure ?_)))))))
  refine wpAny_bind (HT.slicePart_ (.int (-1) t) ?_)
  show wpAny _ _ (if ((-1 : Int) == 0) = true then _ else _) _ _ s
  rw [if_neg (by decide)]
  refine wpAny_bind (HT.slicePart_ pl (wpAny_bind (HT.slicePart_ pu (wpAny_bind (wpAny_pure ?_)))))
  show wpAny _ _ (match Builtin.Slice.sliceAdjust none none (-1) (n : Int) with | (lo, hi) => pure (lo, (-1 : Int), Builtin.Slice.slicePlaces lo hi (-1))) _ _ s
  have e1 : Builtin.Slice.sliceAdjust none none (-1) (n : Int) = ((n : Int) - 1, -1) := rfl
  rw [e1]
  show wpAny _ _ (pure ((n : Int) - 1, (-1 : Int), Builtin.Slice.slicePlaces ((n : Int) - 1) (-1) (-1))) _ _ s
  have e2 : Builtin.Slice.slicePlaces ((n : Int) - 1) (-1) (-1) = n := by
    unfold Builtin.Slice.slicePlaces
    rw [if_neg (by decide), show (- -1 : Int) = 1 by decide, Int.ediv_one]
    split <;> omega
  rw [e2]
  exact wpAny_pure h
theorem filterMap_same {α β : Type} {f g : α → Option β} : ∀ {l : List α}, (∀ k ∈ l, f k = g k) → l.filterMap f = l.filterMap g
  | [], _ => rfl
  | a :: l, h => by rw [List.filterMap_cons, List.filterMap_cons, h a List.mem_cons_self, filterMap_same fun k hk => h k (List.mem_cons_of_mem _ hk)]
theorem pick_rev (xs : Array Value) : ((List.range xs.size).filterMap fun (m : Nat) => xs[(((xs.size : Int) - 1) + (m : Int) * -1).toNat]?).toArray = xs.toList.reverse.toArray := by
  congr 1
  have : (List.range xs.size).filterMap (fun (m : Nat) => xs[(((xs.size : Int) - 1) + (m : Int) * -1).toNat]?) = ((List.range xs.size).map fun k => xs.size - 1 - k).filterMap (xs[·]?) := by
    rw [List.filterMap_map]
    refine filterMap_same fun k hk => ?_
    have := List.mem_range.mp hk
    show xs[(((xs.size : Int) - 1) + (k : Int) * -1).toNat]? = xs[xs.size - 1 - k]?
    congr 1
    omega
  rw [this]
  have h2 := PySem.W.krv_pick xs
  unfold slicePick at h2
  rw [PySem.W.krv_bounds, PySem.W.krv_sliceRange] at h2
  have := congrArg Array.toList h2
  simpa using this
theorem getItem_tuple_rev {t sl : Addr} {items : Array Value} {vl vu : Value} {tk : Tok} {Q : Value → Shared → Prop} (ht : IsTup s.heap t items) (hs : s.heap.IsSliceOf sl vl vu (.int (-1) tk)) (pl : IsPart vl none) (pu : IsPart vu none)
    (h : Q (.ref s.heap.objs.size) { s with heap := s.heap.push { cls := .type "tuple", data := .seq items.toList.reverse.toArray } }) (hsz : items.size ≤ sizeLine) : wpAny (model prog w) A (getItem (.ref t) (.ref sl)) Q E s := by
  have htake : sizeOk (.seq items.toList.reverse.toArray) := by
    show items.toList.reverse.toArray.size ≤ sizeLine
    simpa using hsz
  obtain ⟨os, hos, hcs, hds⟩ := id hs
  have hTs : s.TypeIs (.ref sl) "slice" := ⟨os, hos, hcs⟩
  unfold getItem
  try with_reducible refine wpAny_holding ?_
  first | refine wpAny_bind (wpAny_pure ?_) | skip
  refine wpAny_bind (wpAny_sequenceKey ht.typeIs (by decide) ?_)
  refine wpAny_bind (wpAny_callSpecial?_slot (name := Str.ofString "__getitem__") ht.typeIs PyProof.Rows.slot_tuple_getitem
    (wpAny_call_entry PyProof.Rows.slot_tuple_getitem ht.typeIs entry_tuple_getitem ?_ (args_tuple_getitem _ _)))
  show wpAny _ _ (Builtin.Tuple.tupleItemsOf (.ref t) >>= _) _ _ s
  refine wpAny_bind (tupleItemsOf_ ht ?_)
  refine wpAny_bind (wpAny_typeOf hTs ?_)
  rw [if_pos (by decide)]
  refine wpAny_bind (sliceApplied_rev (n := items.size) hs pl pu ?_)
  have hno : ¬ ((((items.size : Int) - 1) == 0 && (-1 : Int) == 1 && items.size == items.size) = true) := by
    intro q
    rw [Bool.and_eq_true, Bool.and_eq_true] at q
    have q1 : (-1 : Int) = 1 := eq_of_beq q.1.2
    exact absurd q1 (by decide)
  show wpAny _ _ (if (((items.size : Int) - 1) == 0 && (-1 : Int) == 1 && items.size == items.size) = true then _ else _) _ _ s
  rw [if_neg hno, pick_rev]
  first
    | exact wpAny_bind (m := Builtin.Tuple.tupleExact _) (wpAny_newObj_type (wpAny_pure ⟨_, rfl, wpAny_pure h⟩) htake)
    | exact wpAny_bind (m := Builtin.Tuple.tupleExact _) (wpAny_newObj_type (wpAny_bind (wpAny_pure (wpAny_pure ⟨_, rfl, wpAny_pure h⟩))) htake)
    | exact wpAny_bind (wpAny_bind (m := Builtin.Tuple.tupleExact _) (wpAny_newObj_type (wpAny_pure (wpAny_pure ⟨_, rfl, wpAny_pure h⟩)) htake))
    | exact wpAny_bind (wpAny_bind (m := Builtin.Tuple.tupleExact _) (wpAny_newObj_type (wpAny_pure ⟨_, rfl, wpAny_pure h⟩) htake))
end
section
variable (K : KC)
def rRev : V → Hp → VK → Prop := fun x H Q => ∃ O ρ v u, revV v = some u ∧ RepB K H O ρ true x v ∧ (∀ a, a ∈ O ++ ρ → ∃ o', H a = some o') ∧ Made K O ρ u H Q
end
theorem rev_tx (x : Tx) : ((Builtin.Str.strSliceIndices none none (-1) (tx x).length).filterMap ((tx x).cps[·]?)).toArray = x.reverse.toArray := by
  have e : Builtin.Str.strSliceIndices none none (-1) (tx x).length = (List.range x.length).map fun k => x.length - 1 - k := by
    rw [tx_len]
    exact PySem.W.krv_sliceRange x.length
  rw [e]
  congr 1
  have h2 := PySem.W.krv_pick (x.map fun _ => Value.none).toArray
  clear h2
  show ((List.range x.length).map fun k => x.length - 1 - k).filterMap (x.toArray[·]?) = x.reverse
  have e2 : ((List.range x.length).map fun k => x.length - 1 - k) = (List.range x.length).reverse := by
    apply List.ext_getElem
    · simp
    · intro i h1 h2
      simp
  rw [e2, List.filterMap_reverse]
  congr 1
  have := PySem.W.krv_all x.toArray
  simpa using this
section
variable {X : Cx} {ck : List (List Ky)}
theorem pe_rev {e : Expr} {te : TE} {k : Nat} {p1 p2 p3 pos : Pos} (he : PE X e te) : PE X (.Subscript e (.Slice none none (some (.UnaryOp .USub (.Constant (.int 1) k p1) p2)) p3) pos) (fun σ H Q => te σ H fun x H1 => rRev ⟨X.K, ck⟩ x H1 Q) := by
  refine ⟨fun pins s σ H Q I h => ?_⟩
  refine Subscript_ (thn (he.run pins s σ H _ I h) fun v s1 ⟨x, H1, I1, r1, q1⟩ => ?_)
  obtain ⟨O, ρ, vv, u, eu, ra, al, m⟩ := q1
  have hst : PO X (some (.UnaryOp .USub (.Constant (.int 1) k p1) p2)) (tPart (tUn (rU fun i => .int (-i)) (tC (.int 1)))) := po_some (pe_un un_neg pe_int)
  refine wpAny_Slice (thn (po_none.run pins s1 σ H1 (fun o H2 => o = none ∧ H2 = H1) I1 ⟨rfl, rfl⟩) fun vl s2 ⟨l, H2, I2, pl, el, e2⟩ => ?_)
  subst el e2
  refine thn (po_none.run pins s2 σ H2 (fun o H3 => o = none ∧ H3 = H2) I2 ⟨rfl, rfl⟩) fun vu s3 ⟨u', H3, I3, pu, eu', e3⟩ => ?_
  subst eu' e3
  refine thn (hst.run pins s3 σ H3 (fun o H4 => o = some (-1) ∧ H4 = H3) I3 ⟨1, rfl, -1, rfl, rfl, rfl⟩) fun vs s4 ⟨o, H4, I4, ps, eo, e4⟩ => ?_
  subst eo e4
  have I5 : L2.Inv X pins σ H4 { s4 with heap := s4.heap.push { cls := .type "slice", data := .fields #[vl, vu, vs] } } := I4.kept (t' := s4.toks) fun b ob q => Heap.get?_push_of_some _ q
  unfold revV at eu
  split at eu
  · injection eu with eu; subst eu
    obtain ⟨a, Vs, rfl, h1, h2, _⟩ := ra.tup_
    cases r1
    obtain ⟨its, r, ht, hz⟩ := I5.tuple h1
    obtain ⟨t, rfl⟩ : ∃ t, vs = .int (-1) t := by cases ps; exact ⟨_, rfl⟩
    show wpAny (model X.prog X.w) X.A (subscriptTail e (.Slice none none (some (.UnaryOp .USub (.Constant (.int 1) k p1) p2)) p3) (.ref a) (.ref s4.heap.objs.size)) (EP X pins σ Q) X.xe _
    refine tail_any (ops := [.ref a, .ref s4.heap.objs.size]) ht.typeIs PyProof.Rows.slot_tuple_getitem.lookup ?_ (by with_unfolding_all rfl)
    refine getItem_tuple_rev ht (Heap.IsSliceOf.new _ vl vu _) pl pu ?_ (by rw [List.size_toArray, ← r.length]; exact hz)
    refine ⟨.ref _, _, I5.laid (t' := s4.toks) (o := .tup Vs.reverse) (fun b ob q => Heap.get?_push_of_some _ q) (Nat.le_refl _) ?_, rfl, m.tup al h2.reverse _ (I5.hok.fresh (Nat.le_refl _))⟩
    exact ⟨by rw [List.length_reverse]; exact hz, _, r.reverse, IsTup.new _ _⟩
  · injection eu with eu; subst eu
    obtain ⟨a, Vs, rfl, h1, h2⟩ := ra.lst_
    cases r1
    obtain ⟨its, r, ht, hz⟩ := I5.list h1
    have hlen := r.length
    show wpAny (model X.prog X.w) X.A (subscriptTail e (.Slice none none (some (.UnaryOp .USub (.Constant (.int 1) k p1) p2)) p3) (.ref a) (.ref s4.heap.objs.size)) (EP X pins σ Q) X.xe _
    refine tail_any (ops := [.ref a, .ref s4.heap.objs.size]) ht.isList.typeIs (PySem.slot_list_getitem.lookup) ?_ (by with_unfolding_all rfl)
    refine wpAny_getItem_list_slice ht.isList (Heap.IsSliceOf.new _ vl vu vs) pl pu ps (by decide) ?_ (by rw [List.size_toArray]; omega)
    rw [PySem.W.krv_pick]
    refine ⟨.ref _, _, I5.laid (t' := s4.toks) (o := .lst Vs.reverse) (fun b ob q => Heap.get?_push_of_some _ q) (Nat.le_refl _) ?_, rfl, m.lst al h2.reverse _ (I5.hok.fresh (Nat.le_refl _))⟩
    exact ⟨by rw [List.length_reverse]; exact hz, _, 0, r.reverse, Heap.get?_push_size _ rfl⟩
  · split at eu
    · rename_i x hz
      injection eu with eu; subst eu
      obtain ⟨rfl, ok⟩ := ra.str_
      obtain ⟨t, rfl⟩ := r1
      obtain ⟨l, rfl, el⟩ := IsPart.raw pl
      obtain ⟨u, rfl, eu⟩ := IsPart.raw pu
      obtain ⟨st, rfl, est⟩ := IsPart.raw ps
      show wpAny (model X.prog X.w) X.A (subscriptTail e (.Slice none none (some (.UnaryOp .USub (.Constant (.int 1) k p1) p2)) p3) (.str (tx x) t) (.ref s4.heap.objs.size)) (EP X pins σ Q) X.xe _
      refine tail_any (ops := [.str (tx x) t, .ref s4.heap.objs.size]) (typeIs_str _ _ _) F.slot_str_getitem.lookup ?_ (by with_unfolding_all rfl)
      refine wpAny_getItem_str_slice (l := l) (u := u) (st := st) ⟨_, Heap.get?_push_size _ rfl, rfl, rfl⟩ (by rw [est]; rfl) ?_
      unfold sliceMade slicePicked
      rw [el, eu, est]
      show Made.post (if ((-1 : Int) == 1 && _) = true then _ else Made.str ⟨((Builtin.Str.strSliceIndices none none (-1) (tx x).length).filterMap ((tx x).cps[·]?)).toArray⟩) _ _
      rw [rev_tx]
      rw [if_neg (by
        intro q
        rw [Bool.and_eq_true] at q
        exact absurd (eq_of_beq q.1) (by decide))]
      refine ⟨?_, ⟨.str _, _, I5.tok _, ⟨_, rfl⟩, m.here (.str x.reverse (ok.sub fun c hc => List.mem_reverse.mp hc))⟩⟩
      have : (⟨x.reverse.toArray⟩ : PySem.Str).length = x.length := by
        show x.reverse.toArray.size = _
        simp
      rw [this, ← sz_line]
      exact hz
    · cases eu
  · cases eu
end
end MP
set_option maxHeartbeats 4000000
set_option autoImplicit false
namespace MP
open PySem PySem.Spec PyProof.Rows L2
def bfn : Blt → Value
  | .len => .builtin "len" | .abs => .builtin "abs" | .max2 => .builtin "max" | .min2 => .builtin "min" | .max1 => .builtin "max" | .min1 => .builtin "min" | .sum => .builtin "sum"
  | .all => .builtin "all" | .any => .builtin "any" | .toint => .type "int" | .tostr => .type "str" | .tuple => .type "tuple" | .list => .type "list" | .sorted => .builtin "sorted"
  | .gcd => .builtin "math.gcd" | .isqrt => .builtin "math.isqrt" | .repr => .builtin "repr"
section
variable (K : KC)
def rBlt (bl : Blt) : List V → Hp → VK → Prop := fun xs H Q => ∃ O ρ vs u, bltV bl vs = some u ∧ RepBs K H O ρ true xs vs ∧ (∀ a, a ∈ O ++ ρ → ∃ o', H a = some o') ∧ Made K O ρ u H Q
end
theorem maxI_spec : ∀ {ns : List Int} {m : Int}, m ∈ ns → (∀ y, y ∈ ns → y ≤ m) → maxI ns = m
  | [], m, h, _ => by simp at h
  | [x], m, h, _ => by simp at h; simp [maxI, h]
  | x :: y :: r, m, h, g => by
    show max x (maxI (y :: r)) = m
    have gx := g x List.mem_cons_self
    have gr : ∀ z, z ∈ y :: r → z ≤ m := fun z hz => g z (List.mem_cons_of_mem _ hz)
    have top : ∀ {l : List Int} {k : Int}, l ≠ [] → (∀ z, z ∈ l → z ≤ k) → maxI l ≤ k := by
      intro l
      induction l with
      | nil => intro k h; exact absurd rfl h
      | cons a t ih =>
        intro k _ hk
        cases t with
        | nil => exact hk a List.mem_cons_self
        | cons b t =>
          show max a (maxI (b :: t)) ≤ k
          have := ih (k := k) (by simp) fun z hz => hk z (List.mem_cons_of_mem _ hz)
          have := hk a List.mem_cons_self
          omega
    have t := top (l := y :: r) (by simp) gr
    rcases List.mem_cons.mp h with rfl | h
    · omega
    · rw [maxI_spec h gr]; omega
theorem minI_spec : ∀ {ns : List Int} {m : Int}, m ∈ ns → (∀ y, y ∈ ns → m ≤ y) → minI ns = m
  | [], m, h, _ => by simp at h
  | [x], m, h, _ => by simp at h; simp [minI, h]
  | x :: y :: r, m, h, g => by
    show min x (minI (y :: r)) = m
    have gx := g x List.mem_cons_self
    have gr : ∀ z, z ∈ y :: r → m ≤ z := fun z hz => g z (List.mem_cons_of_mem _ hz)
    have top : ∀ {l : List Int} {k : Int}, l ≠ [] → (∀ z, z ∈ l → k ≤ z) → k ≤ minI l := by
      intro l
      induction l with
      | nil => intro k h; exact absurd rfl h
      | cons a t ih =>
        intro k _ hk
        cases t with
        | nil => exact hk a List.mem_cons_self
        | cons b t =>
          show k ≤ min a (minI (b :: t))
          have := ih (k := k) (by simp) fun z hz => hk z (List.mem_cons_of_mem _ hz)
          have := hk a List.mem_cons_self
          omega
    have t := top (l := y :: r) (by simp) gr
    rcases List.mem_cons.mp h with rfl | h
    · omega
    · rw [minI_spec h gr]; omega
section
variable {X : Cx} {ck : List (List Ky)}
theorem cr_isqrt : CallR X (.builtin "math.isqrt") (fun vs H Q => ∃ a : Int, vs = [.int a] ∧ isqrtOk a = true ∧ Q (.int ((Float64.isqrt a.toNat : Nat) : Int)) H) := by
  intro pins s σ H vs us Q I r h
  obtain ⟨a, rfl, ok, q⟩ := h
  obtain ⟨u, rfl, t, rfl⟩ := vals1 r
  unfold isqrtOk at ok
  rw [Bool.and_eq_true, decide_eq_true_eq, decide_eq_true_eq] at ok
  exact call_function_meets PySem.W.MGF.kind_isqrt PySem.W.MGF.plain_isqrt PySem.W.MGF.entry_isqrt (PySem.W.MGF.args_isqrt _) (PySem.W.mg_run_isqrt a t (by omega) (by omega) (by omega)).meets ⟨.int _, H, I.tok _, ⟨_, rfl⟩, q⟩
theorem call_blt (hc : X.calm = true) (bl : Blt) : CallR X (bfn bl) (rBlt ⟨X.K, ck⟩ bl) := by
  intro pins s σ H xs us Q I r h
  obtain ⟨O, ρ, vs, u, e, rv, al, m⟩ := h
  unfold bltV at e
  split at e
  · obtain ⟨n, en, rfl⟩ := Option.map_eq_some_iff.mp e
    obtain ⟨z, rfl, rz⟩ := rv.one
    unfold lenV at en
    split at en
    · split at en
      · rename_i hz
        injection en with en; subst en
        obtain ⟨rfl, ok⟩ := rz.str_
        refine call_len pins s σ H _ us Q I r ⟨_, _, rfl, ⟨by rw [tx_len, ← sz_line]; exact hz, rfl⟩, ?_⟩
        rw [tx_len]; exact m.here (.int _)
      · cases en
    · injection en with en; subst en
      obtain ⟨a, Vs, rfl, h1, h2, _⟩ := rz.tup_
      refine call_len pins s σ H _ us Q I r ⟨_, _, rfl, .inr ⟨Vs, h1, rfl⟩, ?_⟩
      rw [h2.length]; exact m.here (.int _)
    · injection en with en; subst en
      obtain ⟨a, Vs, rfl, h1, h2⟩ := rz.lst_
      refine call_len pins s σ H _ us Q I r ⟨_, _, rfl, .inl ⟨Vs, h1, rfl⟩, ?_⟩
      rw [h2.length]; exact m.here (.int _)
    · injection en with en; subst en
      obtain ⟨a, Vs, rfl, h1, h2, _⟩ := rz.dK_
      obtain ⟨u', rfl, ru⟩ := vals1 r
      cases ru
      refine d_len I (.inl h1) fun t s' I' => ⟨.int _, H, I', ⟨t, rfl⟩, ?_⟩
      rw [List.length_zip, List.length_map, h2, Nat.min_self]
      exact m.here (.int _)
    · cases en
  · injection e with e; subst e
    obtain ⟨z, rfl, rz⟩ := rv.one
    obtain rfl := rz.int_
    exact call_abs pins s σ H _ us Q I r ⟨_, rfl, m.here (.int _)⟩
  · injection e with e; subst e
    obtain ⟨z, y, rfl, rz, ry⟩ := rv.two
    obtain rfl := rz.int_; obtain rfl := ry.int_
    exact call_max2 hc pins s σ H _ us Q I r ⟨_, _, rfl, m.here (.int _)⟩
  · injection e with e; subst e
    obtain ⟨z, y, rfl, rz, ry⟩ := rv.two
    obtain rfl := rz.int_; obtain rfl := ry.int_
    exact call_min2 hc pins s σ H _ us Q I r ⟨_, _, rfl, m.here (.int _)⟩
  · obtain ⟨ns, en, e⟩ := Option.bind_eq_some_iff.mp e
    split at e
    · cases e
    · rename_i hn
      injection e with e; subst e
      obtain ⟨z, rfl, rz⟩ := rv.one
      obtain ⟨a, Vs, rfl, h1, h2⟩ := rz.lst_
      rw [h2.ints en] at h1
      refine cr_max hc pins s σ H _ us Q I r ⟨a, ns, rfl, h1, List.length_pos_iff.mpr hn, fun k hk hle => ?_⟩
      rw [maxI_spec hk hle] at m
      exact m.here (.int _)
  · obtain ⟨ns, en, e⟩ := Option.bind_eq_some_iff.mp e
    split at e
    · cases e
    · rename_i hn
      injection e with e; subst e
      obtain ⟨z, rfl, rz⟩ := rv.one
      obtain ⟨a, Vs, rfl, h1, h2⟩ := rz.lst_
      rw [h2.ints en] at h1
      refine cr_min hc pins s σ H _ us Q I r ⟨a, ns, rfl, h1, List.length_pos_iff.mpr hn, fun k hk hle => ?_⟩
      rw [minI_spec hk hle] at m
      exact m.here (.int _)
  · obtain ⟨ns, en, rfl⟩ := Option.map_eq_some_iff.mp e
    obtain ⟨z, rfl, rz⟩ := rv.one
    obtain ⟨a, Vs, rfl, h1, h2⟩ := rz.lst_
    rw [h2.ints en] at h1
    exact cr_sum hc pins s σ H _ us Q I r ⟨a, ns, rfl, h1, m.here (.int _)⟩
  · obtain ⟨ns, en, rfl⟩ := Option.map_eq_some_iff.mp e
    obtain ⟨z, rfl, rz⟩ := rv.one
    obtain ⟨a, Vs, rfl, h1, h2⟩ := rz.lst_
    rw [h2.bools en] at h1
    exact cr_all hc pins s σ H _ us Q I r ⟨a, ns, rfl, h1, m.here (.bl _)⟩
  · obtain ⟨ns, en, rfl⟩ := Option.map_eq_some_iff.mp e
    obtain ⟨z, rfl, rz⟩ := rv.one
    obtain ⟨a, Vs, rfl, h1, h2⟩ := rz.lst_
    rw [h2.bools en] at h1
    exact cr_any hc pins s σ H _ us Q I r ⟨a, ns, rfl, h1, m.here (.bl _)⟩
  · injection e with e; subst e
    obtain ⟨z, rfl, rz⟩ := rv.one
    obtain rfl := rz.int_
    exact call_int1 pins s σ H _ us Q I r (.inl ⟨_, rfl, m.here (.int _)⟩)
  · injection e with e; subst e
    obtain ⟨z, rfl, rz⟩ := rv.one
    obtain rfl := rz.bl_
    exact call_int1 pins s σ H _ us Q I r (.inr ⟨_, rfl, m.here (.int _)⟩)
  · injection e with e; subst e
    obtain ⟨z, rfl, rz⟩ := rv.one
    obtain ⟨a, Vs, rfl, h1, h2⟩ := rz.lst_
    exact call_tuple_of pins s σ H _ us Q I r ⟨a, Vs, rfl, .inl ⟨h1, m.tup al h2⟩⟩
  · injection e with e; subst e
    obtain ⟨z, rfl, rz⟩ := rv.one
    obtain ⟨a, Vs, rfl, h1, h2, h3⟩ := rz.tup_
    exact call_tuple_of pins s σ H _ us Q I r ⟨a, Vs, rfl, .inr ⟨h1, m.here h3⟩⟩
  · injection e with e; subst e
    obtain ⟨z, rfl, rz⟩ := rv.one
    obtain ⟨a, Vs, rfl, h1, h2⟩ := rz.lst_
    exact call_list_of pins s σ H _ us Q I r ⟨a, Vs, rfl, .inl h1, m.lst al h2⟩
  · injection e with e; subst e
    obtain ⟨z, rfl, rz⟩ := rv.one
    obtain ⟨a, Vs, rfl, h1, h2, h3⟩ := rz.tup_
    exact call_list_of pins s σ H _ us Q I r ⟨a, Vs, rfl, .inr h1, m.lst al h2⟩
  · injection e with e; subst e
    obtain ⟨z, y, rfl, rz, ry⟩ := rv.two
    obtain rfl := rz.int_; obtain rfl := ry.int_
    exact cr_gcd pins s σ H _ us Q I r ⟨_, _, rfl, m.here (.int _)⟩
  · split at e
    · rename_i ok
      injection e with e; subst e
      obtain ⟨z, rfl, rz⟩ := rv.one
      obtain rfl := rz.int_
      exact cr_isqrt pins s σ H _ us Q I r ⟨_, rfl, ok, m.here (.int _)⟩
    · cases e
  · cases e
end
section
variable (K : KC)
def rMth (m : Mth) : V → List V → Hp → VK → Prop := fun x xs H Q => ∃ O ρ v vs u, mthV m v vs = some u ∧ RepB K H O ρ true x v ∧ RepBs K H O ρ true xs vs ∧ (∀ a, a ∈ O ++ ρ → ∃ o', H a = some o') ∧ Made K O ρ u H Q
end
theorem join_tx0 (a : Tx) : ∀ ts : List Tx, Str.join (tx a) (ts.map tx) = tx (joinT a ts)
  | [] => rfl
  | [x] => rfl
  | x :: y :: r => by
    have ih := join_tx0 a (y :: r)
    show tx x ++ tx a ++ Str.join (tx a) ((y :: r).map tx) = tx (x ++ (a ++ joinT a (y :: r)))
    rw [ih, tx_append, tx_append, List.append_assoc]
theorem join_tx (a : Tx) (ts : List Tx) : Txt.join (tx a) (ts.map tx) = tx (joinT a ts) := (StrLaws.glued_eq_join _ _).trans (join_tx0 a ts)
theorem mem_join {a : Tx} {c : Nat} : ∀ {ts : List Tx}, c ∈ joinT a ts → c ∈ a ∨ ∃ t ∈ ts, c ∈ t
  | [], h => by simp [joinT] at h
  | [x], h => .inr ⟨x, List.mem_cons_self, h⟩
  | x :: y :: r, h => by
    have h' : c ∈ x ++ (a ++ joinT a (y :: r)) := h
    rcases List.mem_append.mp h' with h' | h'
    · exact .inr ⟨x, List.mem_cons_self, h'⟩
    · rcases List.mem_append.mp h' with h' | h'
      · exact .inl h'
      · rcases mem_join h' with h' | ⟨t, ht, hc⟩
        · exact .inl h'
        · exact .inr ⟨t, List.mem_cons_of_mem _ ht, hc⟩
theorem join_ok {a : Tx} {ts : List Tx} (ha : okT a) (h : ∀ t ∈ ts, okT t) : okT (joinT a ts) := fun c hc => by
  rcases mem_join hc with hc | ⟨t, ht, hc⟩
  · exact ha c hc
  · exact h t ht c hc
theorem len_tx (ts : List Tx) : (ts.map tx).map (·.length) = ts.map (·.length) := by
  rw [List.map_map]
  exact List.map_congr_left fun t _ => tx_len t
section
variable {X : Cx} {ck : List (List Ky)}
theorem mt_join' : MtR X "str.join" (rMth ⟨X.K, ck⟩ .join) := by
  intro pins s σ H x xs v us Q I rx r h
  obtain ⟨O, ρ, w, vs, u, e, ra, rv, al, m⟩ := h
  unfold mthV at e
  split at e
  · obtain ⟨ts, et, e⟩ := Option.bind_eq_some_iff.mp e
    split at e
    · rename_i hz
      injection e with e; subst e
      obtain ⟨rfl, oa⟩ := ra.str_
      obtain ⟨z, rfl, rz⟩ := rv.one
      obtain ⟨p, Vs, rfl, h1, h2⟩ := rz.lst_
      obtain ⟨e1, ot⟩ := h2.texts et
      rw [e1] at h1
      refine mt_join pins s σ H _ _ v us Q I rx r ⟨_, p, ts.map tx, rfl, rfl, .inl h1, ?_, ?_⟩
      · rw [len_tx, tx_len, List.length_map]; exact hz
      · rw [join_tx]; exact m.here (.str _ (join_ok oa ot))
    · cases e
  · obtain ⟨ts, et, e⟩ := Option.bind_eq_some_iff.mp e
    split at e
    · rename_i hz
      injection e with e; subst e
      obtain ⟨rfl, oa⟩ := ra.str_
      obtain ⟨z, rfl, rz⟩ := rv.one
      obtain ⟨p, Vs, rfl, h1, h2, _⟩ := rz.tup_
      obtain ⟨e1, ot⟩ := h2.texts et
      rw [e1] at h1
      refine mt_join pins s σ H _ _ v us Q I rx r ⟨_, p, ts.map tx, rfl, rfl, .inr h1, ?_, ?_⟩
      · rw [len_tx, tx_len, List.length_map]; exact hz
      · rw [join_tx]; exact m.here (.str _ (join_ok oa ot))
    · cases e
  · cases e
end
end MP
set_option maxHeartbeats 4000000
set_option autoImplicit false
namespace MP
open PySem PySem.Spec PyProof.Rows L2
abbrev kc (X : Cx) (ck : List (List Ky)) : KC := ⟨X.K, ck⟩
section
variable {X : Cx} {ck : List (List Ky)} {W : WX} {T : Nat → Fn} {b : Bool}
theorem St.alive {K : KC} {H0 H : Hp} {ρ0 B O ρ : List Addr} {η : Env} {h : MH} {σ : L2.St} (S : St K H0 ρ0 B O ρ η h σ H) : ∀ a, a ∈ O ++ ρ → ∃ o', H a = some o' := fun a ha => by
  rcases List.mem_append.mp ha with ha | ha
  · exact S.liv a ha
  · obtain ⟨k, hk, ek⟩ := List.getElem_of_mem ha
    have hl := S.mh.len
    have hk2 : k < h.length := by omega
    have w := S.mh.at_ k h[k] a (by simp [hk2]) (by simp [hk, ek])
    cases qx : h[k] with
    | lst vs => rw [qx] at w; obtain ⟨Vs, e, _⟩ := w; exact ⟨_, e⟩
    | dK ks vs => rw [qx] at w; obtain ⟨Vs, e, _⟩ := w; exact ⟨_, e⟩
    | dT ks vs => rw [qx] at w; obtain ⟨Vs, e, _⟩ := w; exact ⟨_, e⟩
    | _ => rw [qx] at w; exact w.elim
theorem Pst.made {K : KC} {W : WX} {σ : L2.St} {O ρ : List Addr} {H : Hp} {Q : VK} {h : MH} {u : Val} {b : Bool} (p : Pst K W σ O ρ H (fun H' ρ' z v => RepB K H' O ρ' b z v) Q (.ok u h)) (m : MHR K H (O ++ ρ) ρ h) : Made K O ρ u H Q :=
  fun z H' s r => p.give m s (.inl r)
theorem e_var {i : Nat} {x : PySem.Str} {pos : Pos} (hN : X.N[i]? = some x) (hv : Vis X.env.scope x) (hd : (x == ("__debug__" : PySem.Str)) = false) (hcd : (x == ("__classdict__" : PySem.Str)) = false) : PE X (.Name x pos) (tE (kc X ck) W T b (.var i)) := by
  refine PE.imp (pe_var hN hv hd hcd) fun pins s σ H Q I ⟨H0, ρ0, B, O, ρ, η, h, S, p⟩ => ?_
  obtain ⟨v, e, p⟩ := Pst.opt p
  have sl : (∃ w, η[i]? = some (.v w) ∧ v = w) ∨ (b = true ∧ η[i]? = some (.o v)) := by
    cases b with
    | true =>
      have e' : getB η i = some v := e
      unfold getB at e'
      split at e'
      · injection e' with e'; exact .inl ⟨_, by assumption, e'.symm⟩
      · injection e' with e'; subst e'; exact .inr ⟨rfl, by assumption⟩
      · cases e'
    | false =>
      have e' : getS η i = some v := e
      unfold getS at e'
      split at e'
      · injection e' with e'; exact .inl ⟨_, by assumption, e'.symm⟩
      · cases e'
  rcases sl with ⟨w, e1, rfl⟩ | ⟨rfl, e1⟩
  · obtain ⟨z, e2, r⟩ := S.val i _ e1
    exact ⟨z, e2, p.ok S.mh (.inl r)⟩
  · obtain ⟨a, e2, ho, _, _, w⟩ := S.own i _ e1
    exact ⟨.ref a, e2, p.ok S.mh (.inr ⟨rfl, a, rfl, ho, S.sep a ho, w⟩)⟩
theorem e_con {e : Expr} {z : V} {v : Val} (he : PE X e (tC z)) (r : ∀ H M ρ, Rep (kc X ck) (off H M) ρ z v) : PE X e (tE (kc X ck) W T b (.con v)) :=
  PE.imp he fun pins s σ H Q I ⟨H0, ρ0, B, O, ρ, η, h, S, p⟩ => p.ok S.mh (.inl (r _ _ _))
theorem e_glob {e : Expr} {z : V} {v : Val} (he : PE X e (tC z)) (r : ∀ H M ρ, Rep (kc X ck) (off H M) ρ z v) : PE X e (tE (kc X ck) W T b (.glob v)) :=
  PE.imp he fun pins s σ H Q I ⟨H0, ρ0, B, O, ρ, η, h, S, p⟩ => p.ok S.mh (.inl (r _ _ _))
theorem two {a c : E} {f : Val → Val → MH → Res Val} {b : Bool} {σ : L2.St} {H : Hp} {Q : VK} {R : V → V → Hp → Prop} {H0 : Hp} {ρ0 B O ρ : List Addr} {η : Env} {h : MH} (S : St (kc X ck) H0 ρ0 B O ρ η h σ H)
    (p : Pst (kc X ck) W σ O ρ H (fun H' ρ' z v => RepB (kc X ck) H' O ρ' b z v) Q ((evE T true a η h).bind fun v h1 => (evE T true c η h1).bind fun w h2 => f v w h2))
    (k : ∀ x y v w ρ2 H2 h2, St (kc X ck) H0 ρ0 B O ρ2 η h2 σ H2 → RepB (kc X ck) H2 O ρ2 true x v → RepB (kc X ck) H2 O ρ2 true y w → Pst (kc X ck) W σ O ρ2 H2 (fun H' ρ' z v => RepB (kc X ck) H' O ρ' b z v) Q (f v w h2) → R x y H2) :
    tE (kc X ck) W T true a σ H fun x H1 => tE (kc X ck) W T true c σ H1 fun y H2 => R x y H2 := by
  refine ⟨H0, ρ0, B, O, ρ, η, h, S, p.bind fun z v ρ1 H1 h1 g m r p1 => ?_⟩
  refine ⟨H0, ρ0, B, O, ρ1, η, h1, S.grow g m, p1.bind fun y w ρ2 H2 h2 g2 m2 r2 p2 => ?_⟩
  exact k z y v w ρ2 H2 h2 ((S.grow g m).grow g2 m2) (r.grow g2) r2 p2
theorem e_bin {op : BOp} {a c : E} {ea ec : Expr} {pos : Pos} (ha : PE X ea (tE (kc X ck) W T true a)) (hc : PE X ec (tE (kc X ck) W T true c)) : PE X (.BinOp ea (bop op) ec pos) (tE (kc X ck) W T b (.bin op a c)) := by
  refine PE.imp (pe_op (op_bin (ck := ck) op) ha hc) fun pins s σ H Q I ⟨H0, ρ0, B, O, ρ, η, h, S, p⟩ => ?_
  refine two S p fun x y v w ρ2 H2 h2 S2 rx ry p2 => ?_
  obtain ⟨u, eu, p2⟩ := Pst.opt p2
  exact ⟨O, ρ2, v, w, u, eu, rx, ry, S2.alive, p2.made S2.mh⟩
theorem e_neg {a : E} {ea : Expr} {pos : Pos} (ha : PE X ea (tE (kc X ck) W T true a)) : PE X (.UnaryOp .USub ea pos) (tE (kc X ck) W T b (.neg a)) := by
  refine PE.imp (pe_un un_neg ha) fun pins s σ H Q I ⟨H0, ρ0, B, O, ρ, η, h, S, p⟩ => ?_
  refine ⟨H0, ρ0, B, O, ρ, η, h, S, p.bind fun z v ρ1 H1 h1 g m r p1 => ?_⟩
  cases v with
  | int i =>
    obtain rfl := r.int_
    exact ⟨i, rfl, p1.ok m (.inl (.int _))⟩
  | _ => exact p1.elim
theorem opt_map {α β : Type} {o : Option α} {f : α → β} {h : MH} {K : KC} {W : WX} {σ : L2.St} {O ρ : List Addr} {H : Hp} {γ : Type} {Rel : Hp → List Addr → γ → β → Prop} {Q : γ → Hp → Prop} (p : Pst K W σ O ρ H Rel Q (opt (o.map f) h)) :
    ∃ a, o = some a ∧ Pst K W σ O ρ H Rel Q (.ok (f a) h) := by
  cases o with
  | none => exact p.elim
  | some a => exact ⟨a, rfl, p⟩
theorem e_cmp (hu : X.A.units + 65 < cLine) {op : COp} {a c : E} {ea ec : Expr} {pos : Pos} (ha : PE X ea (tE (kc X ck) W T true a)) (hc : PE X ec (tE (kc X ck) W T true c)) (hm : behindInMarks (cop op) ec = false) :
    PE X (.Compare ea [cop op] [ec] pos) (tE (kc X ck) W T b (.cmp op a c)) := by
  refine PE.imp (pe_cmpR (op_cmp (ck := ck) hu op) ha hc hm) fun pins s σ H Q I ⟨H0, ρ0, B, O, ρ, η, h, S, p⟩ => ?_
  refine two S p fun x y v w ρ2 H2 h2 S2 rx ry p2 => ?_
  obtain ⟨u, eu, p2⟩ := opt_map p2
  exact ⟨O, ρ2, v, w, u, eu, rx, ry, p2.ok S2.mh (.inl (.bl _))⟩
theorem twoG {a c : E} {α β : Type} {f : Val → Val → MH → Res α} {σ : L2.St} {H : Hp} {Rel : Hp → List Addr → β → α → Prop} {Q : β → Hp → Prop} {R : V → V → Hp → Prop} {H0 : Hp} {ρ0 B O ρ : List Addr} {η : Env} {h : MH} (S : St (kc X ck) H0 ρ0 B O ρ η h σ H)
    (p : Pst (kc X ck) W σ O ρ H Rel Q ((evE T true a η h).bind fun v h1 => (evE T true c η h1).bind fun w h2 => f v w h2))
    (k : ∀ x y v w ρ2 H2 h2, St (kc X ck) H0 ρ0 B O ρ2 η h2 σ H2 → RepB (kc X ck) H2 O ρ2 true x v → RepB (kc X ck) H2 O ρ2 true y w → Pst (kc X ck) W σ O ρ2 H2 Rel Q (f v w h2) → R x y H2) :
    tE (kc X ck) W T true a σ H fun x H1 => tE (kc X ck) W T true c σ H1 fun y H2 => R x y H2 := by
  refine ⟨H0, ρ0, B, O, ρ, η, h, S, p.bind fun z v ρ1 H1 h1 g m r p1 => ?_⟩
  refine ⟨H0, ρ0, B, O, ρ1, η, h1, S.grow g m, p1.bind fun y w ρ2 H2 h2 g2 m2 r2 p2 => ?_⟩
  exact k z y v w ρ2 H2 h2 ((S.grow g m).grow g2 m2) (r.grow g2) r2 p2
theorem bind_assoc {α β γ : Type} (r : Res α) (f : α → MH → Res β) (g : β → MH → Res γ) : (r.bind f).bind g = r.bind fun a h => (f a h).bind g := by
  cases r <;> rfl
theorem t_cmp (hu : X.A.units + 65 < cLine) {op : COp} {a c : E} {ea ec : Expr} {pos : Pos} (ha : PE X ea (tE (kc X ck) W T true a)) (hc : PE X ec (tE (kc X ck) W T true c)) (hm : behindInMarks (cop op) ec = false) :
    PT X (.Compare ea [cop op] [ec] pos) (tT (kc X ck) W T b (.cmp op a c)) := by
  refine PT.imp (pt_cmpR (op_cmp (ck := ck) hu op) ha hc hm) fun pins s σ H Q I ⟨H0, ρ0, B, O, ρ, η, h, S, p⟩ => ?_
  have p' : Pst (kc X ck) W σ O ρ H (fun _ _ z v => z = v) Q ((evE T true a η h).bind fun v h1 => (evE T true c η h1).bind fun w h2 => (opt ((cmpV op v w).map .bl) h2).bind fun v h1 => opt (truthV v) h1) := by
    have e : evT T b (.cmp op a c) η h = _ := rfl
    unfold evT evE at p
    rw [bind_assoc] at p
    simp only [bind_assoc] at p
    exact p
  refine twoG S p' fun x y v w ρ2 H2 h2 S2 rx ry p2 => ?_
  cases ec : cmpV op v w with
  | none => rw [ec] at p2; exact p2.elim
  | some r =>
    rw [ec] at p2
    exact ⟨O, ρ2, v, w, r, ec, rx, ry, r, rfl, p2 r ρ2 H2 Grow.refl S2.mh rfl⟩
theorem t_any {e : E} {ee : Expr} (he : PE X ee (tE (kc X ck) W T b e)) (hp : ∀ whole, isTrue ee X.env whole = (do let v ← whole; standAt ee.pos; holding [v] (truthy v))) : PT X ee (tT (kc X ck) W T b e) := by
  refine PT.imp (pt_truth he hp) fun pins s σ H Q I ⟨H0, ρ0, B, O, ρ, η, h, S, p⟩ => ?_
  refine ⟨H0, ρ0, B, O, ρ, η, h, S, Pst.bind p fun z v ρ1 H1 h1 g m r p1 => ?_⟩
  obtain ⟨k, ek, p1⟩ := Pst.opt p1
  exact ⟨k, tru_of r ek, p1 k ρ1 H1 Grow.refl m rfl⟩
theorem e_isN {a : E} {ea : Expr} {j : Nat} {p1 pos : Pos} (ha : PE X ea (tE (kc X ck) W T true a)) : PE X (.Compare ea [.Is] [.Constant .none j p1] pos) (tE (kc X ck) W T b (.isN a)) := by
  refine PE.imp (pe_cmp (pc_isN ha) rfl) fun pins s σ H Q I ⟨H0, ρ0, B, O, ρ, η, h, S, p⟩ => ?_
  refine ⟨H0, ρ0, B, O, ρ, η, h, S, p.bind fun z v ρ1 H1 h1 g m r p1 => ?_⟩
  refine p1.ok m (.inl ?_)
  have e : decide (z = V.non) = isNV v := by
    rcases r with r | ⟨_, a, rfl, _, _, w⟩
    · cases r <;> simp [isNV]
    · cases v <;> first | exact w.elim | simp [isNV]
  rw [e]; exact .bl _
theorem e_notN {a : E} {ea : Expr} {j : Nat} {p1 pos : Pos} (ha : PE X ea (tE (kc X ck) W T true a)) : PE X (.Compare ea [.IsNot] [.Constant .none j p1] pos) (tE (kc X ck) W T b (.notN a)) := by
  refine PE.imp (pe_cmp (pc_notN ha) rfl) fun pins s σ H Q I ⟨H0, ρ0, B, O, ρ, η, h, S, p⟩ => ?_
  refine ⟨H0, ρ0, B, O, ρ, η, h, S, p.bind fun z v ρ1 H1 h1 g m r p1 => ?_⟩
  refine p1.ok m (.inl ?_)
  have e : decide (z = V.non) = isNV v := by
    rcases r with r | ⟨_, a, rfl, _, _, w⟩
    · cases r <;> simp [isNV]
    · cases v <;> first | exact w.elim | simp [isNV]
  rw [e]; exact .bl _
theorem rep_isN {K : KC} {H : Hp} {O ρ : List Addr} {z : V} {v : Val} (r : RepB K H O ρ b z v) : decide (z = V.non) = isNV v := by
  rcases r with r | ⟨_, a, rfl, _, _, w⟩
  · cases r <;> simp [isNV]
  · cases v <;> first | exact w.elim | simp [isNV]
theorem Pst.tt {K : KC} {σ : L2.St} {O ρ : List Addr} {H : Hp} {Q : Bool → Hp → Prop} {k : Bool} {h : MH} (p : Pst K W σ O ρ H (fun _ _ (z : Bool) (v : Bool) => z = v) Q (.ok k h)) (m : MHR K H (O ++ ρ) ρ h) : Q k H := p k ρ H Grow.refl m rfl
theorem t_isN {a : E} {ea : Expr} {j : Nat} {p1 pos : Pos} (ha : PE X ea (tE (kc X ck) W T true a)) : PT X (.Compare ea [.Is] [.Constant .none j p1] pos) (tT (kc X ck) W T b (.isN a)) := by
  refine PT.imp (pt_cmp (pc_isN ha) rfl) fun pins s σ H Q I ⟨H0, ρ0, B, O, ρ, η, h, S, p⟩ => ?_
  unfold evT evE at p
  rw [bind_assoc] at p
  refine ⟨H0, ρ0, B, O, ρ, η, h, S, p.bind fun z v ρ1 H1 h1 g m r p1 => ?_⟩
  exact ⟨_, rfl, by rw [rep_isN r]; exact p1.tt m⟩
theorem t_notN {a : E} {ea : Expr} {j : Nat} {p1 pos : Pos} (ha : PE X ea (tE (kc X ck) W T true a)) : PT X (.Compare ea [.IsNot] [.Constant .none j p1] pos) (tT (kc X ck) W T b (.notN a)) := by
  refine PT.imp (pt_cmp (pc_notN ha) rfl) fun pins s σ H Q I ⟨H0, ρ0, B, O, ρ, η, h, S, p⟩ => ?_
  unfold evT evE at p
  rw [bind_assoc] at p
  refine ⟨H0, ρ0, B, O, ρ, η, h, S, p.bind fun z v ρ1 H1 h1 g m r p1 => ?_⟩
  exact ⟨_, rfl, by rw [rep_isN r]; exact p1.tt m⟩
theorem chain_at {op op' : COp} {a c d : E} {α β : Type} {f : Val → MH → Res α} {σ : L2.St} {H : Hp} {Rel : Hp → List Addr → β → α → Prop} {Q : β → Hp → Prop} {H0 : Hp} {ρ0 B O ρ : List Addr} {η : Env} {h : MH} (S : St (kc X ck) H0 ρ0 B O ρ η h σ H)
    (p : Pst (kc X ck) W σ O ρ H Rel Q ((evE T b (.chain op op' a c d) η h).bind f)) {Q' : VK}
    (k : ∀ r ρ2 H2 h2, MHR (kc X ck) H2 (O ++ ρ2) ρ2 h2 → Pst (kc X ck) W σ O ρ2 H2 Rel Q (f (.bl r) h2) → Q' (.bl r) H2) :
    tChain (rCmp (kc X ck) op) (rCmp (kc X ck) op') (tE (kc X ck) W T true a) (tE (kc X ck) W T true c) (tE (kc X ck) W T true d) σ H Q' := by
  unfold evE at p
  simp only [bind_assoc] at p
  refine twoG S p fun x y v w ρ2 H2 h2 S2 rx ry p2 => ?_
  cases ec : cmpV op v w with
  | none => rw [ec] at p2; exact p2.elim
  | some r =>
    rw [ec] at p2
    refine ⟨O, ρ2, v, w, r, ec, rx, ry, r, rfl, ?_⟩
    cases r with
    | false => exact k false ρ2 H2 h2 S2.mh p2
    | true =>
      rw [if_pos rfl]
      have p3 : Pst (kc X ck) W σ O ρ2 H2 Rel Q (((evE T true d η h2).bind fun u h4 => opt ((cmpV op' w u).map .bl) h4).bind f) := p2
      rw [bind_assoc] at p3
      refine ⟨H0, ρ0, B, O, ρ2, η, h2, S2, p3.bind fun z u ρ3 H3 h3 g3 m3 r3 p4 => ?_⟩
      cases e2 : cmpV op' w u with
      | none => rw [e2] at p4; exact p4.elim
      | some r' =>
        rw [e2] at p4
        exact ⟨O, ρ3, w, u, r', e2, ry.grow g3, r3, k r' ρ3 H3 h3 m3 p4⟩
theorem bind_ok {α : Type} (r : Res α) : (r.bind fun v h => .ok v h) = r := by cases r <;> rfl
theorem e_chain (hu : X.A.units + 65 < cLine) {op op' : COp} {a c d : E} {ea ec ed : Expr} {pos : Pos} (ha : PE X ea (tE (kc X ck) W T true a)) (hc : PE X ec (tE (kc X ck) W T true c)) (hd : PE X ed (tE (kc X ck) W T true d)) (hm : lastMarks [cop op, cop op'] [ec, ed] = false) :
    PE X (.Compare ea [cop op, cop op'] [ec, ed] pos) (tE (kc X ck) W T b (.chain op op' a c d)) := by
  refine PE.imp (pe_chain (op_cmp (ck := ck) hu op) (op_cmp (ck := ck) hu op') ha hc hd hm) fun pins s σ H Q I ⟨H0, ρ0, B, O, ρ, η, h, S, p⟩ => ?_
  refine chain_at (b := b) (f := fun v h => .ok v h) S (by rw [bind_ok]; exact p) fun r ρ2 H2 h2 m p2 => Pst.ok p2 m (RepB.of (.bl _))
theorem t_chain (hu : X.A.units + 65 < cLine) {op op' : COp} {a c d : E} {ea ec ed : Expr} {pos : Pos} (ha : PE X ea (tE (kc X ck) W T true a)) (hc : PE X ec (tE (kc X ck) W T true c)) (hd : PE X ed (tE (kc X ck) W T true d)) (hm : lastMarks [cop op, cop op'] [ec, ed] = false) :
    PT X (.Compare ea [cop op, cop op'] [ec, ed] pos) (tT (kc X ck) W T b (.chain op op' a c d)) := by
  refine PT.imp (pt_chain (op_cmp (ck := ck) hu op) (op_cmp (ck := ck) hu op') ha hc hd hm) fun pins s σ H Q I ⟨H0, ρ0, B, O, ρ, η, h, S, p⟩ => ?_
  exact chain_at (b := b) S p fun r ρ2 H2 h2 m p2 => ⟨r, rfl, p2.tt m⟩
theorem Pst.rel {K : KC} {σ : L2.St} {O ρ : List Addr} {H : Hp} {α β : Type} {Rel Rel' : Hp → List Addr → β → α → Prop} {Q : β → Hp → Prop} {r : Res α} (i : ∀ H ρ z v, Rel' H ρ z v → Rel H ρ z v) (p : Pst K W σ O ρ H Rel Q r) : Pst K W σ O ρ H Rel' Q r := by
  cases r with
  | ok v h' => exact fun z ρ' H' g m q => p z ρ' H' g m (i _ _ _ _ q)
  | exc x h' => exact p
  | bad => exact p
theorem Pst.weak {K : KC} {σ : L2.St} {O ρ : List Addr} {H : Hp} {Q : VK} {r : Res Val} (p : Pst K W σ O ρ H (fun H' ρ' z v => RepB K H' O ρ' b z v) Q r) : Pst K W σ O ρ H (fun H' ρ' z v => RepB K H' O ρ' false z v) Q r :=
  p.rel fun _ _ _ _ q => .inl q.ff
theorem e_band {a c : E} {ea eb : Expr} {rest : List Expr} {pos : Pos} (ha : PE X ea (tE (kc X ck) W T false a)) (hc : PE X (.BoolOp .And (eb :: rest) pos) (tE (kc X ck) W T false c)) : PE X (.BoolOp .And (ea :: eb :: rest) pos) (tE (kc X ck) W T b (.band a c)) := by
  refine PE.imp (pe_andT ha hc) fun pins s σ H Q I ⟨H0, ρ0, B, O, ρ, η, h, S, p⟩ => ?_
  refine ⟨H0, ρ0, B, O, ρ, η, h, S, p.bind fun z v ρ1 H1 h1 g m r p1 => ?_⟩
  cases ek : truthV v with
  | none => rw [ek] at p1; exact p1.elim
  | some k =>
    rw [ek] at p1
    refine ⟨k, tru_of r ek, ?_⟩
    cases k with
    | false => exact Pst.ok p1 m (.inl r.ff)
    | true => exact ⟨H0, ρ0, B, O, ρ1, η, h1, S.grow g m, Pst.weak p1⟩
theorem e_bor {a c : E} {ea eb : Expr} {rest : List Expr} {pos : Pos} (ha : PE X ea (tE (kc X ck) W T false a)) (hc : PE X (.BoolOp .Or (eb :: rest) pos) (tE (kc X ck) W T false c)) : PE X (.BoolOp .Or (ea :: eb :: rest) pos) (tE (kc X ck) W T b (.bor a c)) := by
  refine PE.imp (pe_orT ha hc) fun pins s σ H Q I ⟨H0, ρ0, B, O, ρ, η, h, S, p⟩ => ?_
  refine ⟨H0, ρ0, B, O, ρ, η, h, S, p.bind fun z v ρ1 H1 h1 g m r p1 => ?_⟩
  cases ek : truthV v with
  | none => rw [ek] at p1; exact p1.elim
  | some k =>
    rw [ek] at p1
    refine ⟨k, tru_of r ek, ?_⟩
    cases k with
    | true => exact Pst.ok p1 m (.inl r.ff)
    | false => exact ⟨H0, ρ0, B, O, ρ1, η, h1, S.grow g m, Pst.weak p1⟩
theorem e_one {op : BoolOp} {e : Expr} {a : E} {pos : Pos} (h : PE X e (tE (kc X ck) W T b a)) : PE X (.BoolOp op [e] pos) (tE (kc X ck) W T b a) := pe_one h
theorem w_band {a c : E} {ea eb : Expr} {rest : List Expr} {pos : Pos} (ha : PT X ea (tT (kc X ck) W T false a)) (hc : PW X (.BoolOp .And (eb :: rest) pos) (tT (kc X ck) W T false c)) : PW X (.BoolOp .And (ea :: eb :: rest) pos) (tT (kc X ck) W T b (.band a c)) := by
  have h := pw_and ha hc
  refine ⟨fun wh pins s σ H Q I hq => h.run wh pins s σ H Q I ?_⟩
  obtain ⟨H0, ρ0, B, O, ρ, η, h, S, p⟩ := hq
  unfold evT evE at p
  rw [bind_assoc] at p
  have p' : Pst (kc X ck) W σ O ρ H (fun _ _ (z : Bool) (v : Bool) => z = v) Q ((evT T false a η h).bind fun k h1 => if k then evT T false c η h1 else .ok false h1) := by
    unfold evT
    rw [bind_assoc]
    cases ea : evE T false a η h with
    | ok v h1 =>
      rw [ea] at p
      cases ek : truthV v with
      | none => simp only [Res.bind, ek, MP.opt] at p ⊢; exact p
      | some k =>
        cases k with
        | true => simp only [Res.bind, ek, MP.opt, if_true] at p ⊢; exact p
        | false => simpa only [Res.bind, ek, MP.opt, Bool.false_eq_true, if_false] using p
    | exc x h1 => rw [ea] at p; exact p
    | bad => rw [ea] at p; exact p
  refine ⟨H0, ρ0, B, O, ρ, η, h, S, p'.bind fun z k ρ1 H1 h1 g m r p1 => ?_⟩
  subst r
  cases z with
  | true => exact ⟨H0, ρ0, B, O, ρ1, η, h1, S.grow g m, p1⟩
  | false => exact Pst.tt p1 m
theorem w_bor {a c : E} {ea eb : Expr} {rest : List Expr} {pos : Pos} (ha : PT X ea (tT (kc X ck) W T false a)) (hc : PW X (.BoolOp .Or (eb :: rest) pos) (tT (kc X ck) W T false c)) : PW X (.BoolOp .Or (ea :: eb :: rest) pos) (tT (kc X ck) W T b (.bor a c)) := by
  have h := pw_or ha hc
  refine ⟨fun wh pins s σ H Q I hq => h.run wh pins s σ H Q I ?_⟩
  obtain ⟨H0, ρ0, B, O, ρ, η, h, S, p⟩ := hq
  unfold evT evE at p
  rw [bind_assoc] at p
  have p' : Pst (kc X ck) W σ O ρ H (fun _ _ (z : Bool) (v : Bool) => z = v) Q ((evT T false a η h).bind fun k h1 => if k then .ok true h1 else evT T false c η h1) := by
    unfold evT
    rw [bind_assoc]
    cases ea : evE T false a η h with
    | ok v h1 =>
      rw [ea] at p
      cases ek : truthV v with
      | none => simp only [Res.bind, ek, MP.opt] at p ⊢; exact p
      | some k =>
        cases k with
        | true => simpa only [Res.bind, ek, MP.opt, if_true] using p
        | false => simp only [Res.bind, ek, MP.opt, Bool.false_eq_true, if_false] at p ⊢; exact p
    | exc x h1 => rw [ea] at p; exact p
    | bad => rw [ea] at p; exact p
  refine ⟨H0, ρ0, B, O, ρ, η, h, S, p'.bind fun z k ρ1 H1 h1 g m r p1 => ?_⟩
  subst r
  cases z with
  | true => exact Pst.tt p1 m
  | false => exact ⟨H0, ρ0, B, O, ρ1, η, h1, S.grow g m, p1⟩
theorem w_andone {e : Expr} {a : E} {pos : Pos} (h : PT X e (tT (kc X ck) W T b a)) : PW X (.BoolOp .And [e] pos) (tT (kc X ck) W T b a) := pw_and1 h
theorem w_orone {e : Expr} {a : E} {pos : Pos} (h : PT X e (tT (kc X ck) W T b a)) : PW X (.BoolOp .Or [e] pos) (tT (kc X ck) W T b a) := pw_or1 h
theorem e_bnot {a : E} {ea : Expr} {pos : Pos} (ha : PE X ea (tE (kc X ck) W T true a)) : PE X (.UnaryOp .Not ea pos) (tE (kc X ck) W T b (.bnot a)) := by
  refine PE.imp (pe_notT ha) fun pins s σ H Q I ⟨H0, ρ0, B, O, ρ, η, h, S, p⟩ => ?_
  refine ⟨H0, ρ0, B, O, ρ, η, h, S, p.bind fun z v ρ1 H1 h1 g m r p1 => ?_⟩
  cases ek : truthV v with
  | none => rw [ek] at p1; exact p1.elim
  | some k =>
    rw [ek] at p1
    exact ⟨k, tru_of r ek, Pst.ok p1 m (.inl (.bl _))⟩
theorem t_bnot {a : E} {ea : Expr} {pos : Pos} (ha : PT X ea (tT (kc X ck) W T true a)) : PT X (.UnaryOp .Not ea pos) (tT (kc X ck) W T b (.bnot a)) := by
  refine PT.imp (pt_not ha) fun pins s σ H Q I ⟨H0, ρ0, B, O, ρ, η, h, S, p⟩ => ?_
  have p' : Pst (kc X ck) W σ O ρ H (fun _ _ (z : Bool) (v : Bool) => z = v) Q ((evT T true a η h).bind fun k h1 => .ok (!k) h1) := by
    unfold evT evE at p
    unfold evT
    rw [bind_assoc] at p ⊢
    simp only [bind_assoc] at p ⊢
    cases ea : evE T true a η h with
    | ok v h1 =>
      rw [ea] at p
      cases ek : truthV v with
      | none => simp only [Res.bind, ek, MP.opt] at p ⊢; exact p
      | some k => simpa only [Res.bind, ek, MP.opt, truthV] using p
    | exc x h1 => rw [ea] at p; exact p
    | bad => rw [ea] at p; exact p
  exact ⟨H0, ρ0, B, O, ρ, η, h, S, p'.bind fun z k ρ1 H1 h1 g m r p1 => by subst r; exact Pst.tt p1 m⟩
theorem e_ife {c x y : E} {ec ex ey : Expr} {pos : Pos} (hc : PT X ec (tT (kc X ck) W T true c)) (hx : PE X ex (tE (kc X ck) W T false x)) (hy : PE X ey (tE (kc X ck) W T false y)) : PE X (.IfExp ec ex ey pos) (tE (kc X ck) W T b (.ife c x y)) := by
  refine PE.imp (pe_ifExp hc hx hy) fun pins s σ H Q I ⟨H0, ρ0, B, O, ρ, η, h, S, p⟩ => ?_
  have p' : Pst (kc X ck) W σ O ρ H (fun H' ρ' z v => RepB (kc X ck) H' O ρ' b z v) Q ((evT T true c η h).bind fun t h2 => if t then evE T false x η h2 else evE T false y η h2) := by
    unfold evE at p
    unfold evT
    rw [bind_assoc]
    exact p
  refine ⟨H0, ρ0, B, O, ρ, η, h, S, p'.bind fun z k ρ1 H1 h1 g m r p1 => ?_⟩
  subst r
  cases z with
  | true => exact ⟨H0, ρ0, B, O, ρ1, η, h1, S.grow g m, Pst.weak p1⟩
  | false => exact ⟨H0, ρ0, B, O, ρ1, η, h1, S.grow g m, Pst.weak p1⟩
theorem pt_ifExp {c ex ey : Expr} {pos : Pos} {tc tx ty : TT} (hc : PT X c tc) (hx : PT X ex tx) (hy : PT X ey ty) : PT X (.IfExp c ex ey pos) (fun σ H Q => tc σ H fun k H1 => if k = true then tx σ H1 Q else ty σ H1 Q) := by
  refine ⟨fun pins s σ H Q I h => ?_⟩
  show wpAny _ _ (do if ← isTrue c X.env (eval c X.env) then isTrue ex X.env (eval ex X.env) else isTrue ey X.env (eval ey X.env)) _ _ s
  refine wpAny_bind (thn (hc.run pins s σ H _ I h) fun d s1 ⟨H1, I1, q1⟩ => ?_)
  cases d with
  | true => exact hx.run pins s1 σ H1 Q I1 q1
  | false => exact hy.run pins s1 σ H1 Q I1 q1
theorem t_ife {c x y : E} {ec ex ey : Expr} {pos : Pos} (hc : PT X ec (tT (kc X ck) W T true c)) (hx : PT X ex (tT (kc X ck) W T false x)) (hy : PT X ey (tT (kc X ck) W T false y)) : PT X (.IfExp ec ex ey pos) (tT (kc X ck) W T b (.ife c x y)) := by
  refine PT.imp (pt_ifExp hc hx hy) fun pins s σ H Q I ⟨H0, ρ0, B, O, ρ, η, h, S, p⟩ => ?_
  have p' : Pst (kc X ck) W σ O ρ H (fun _ _ (z : Bool) (v : Bool) => z = v) Q ((evT T true c η h).bind fun t h2 => if t then evT T false x η h2 else evT T false y η h2) := by
    unfold evT evE at p
    unfold evT
    rw [bind_assoc] at p ⊢
    cases ea : evE T true c η h with
    | ok v h1 =>
      rw [ea] at p
      cases ek : truthV v with
      | none => simp only [Res.bind, ek, MP.opt] at p ⊢; exact p
      | some k =>
        cases k with
        | true => simpa only [Res.bind, ek, MP.opt, if_true] using p
        | false => simpa only [Res.bind, ek, MP.opt, Bool.false_eq_true, if_false] using p
    | exc x h1 => rw [ea] at p; exact p
    | bad => rw [ea] at p; exact p
  refine ⟨H0, ρ0, B, O, ρ, η, h, S, p'.bind fun z k ρ1 H1 h1 g m r p1 => ?_⟩
  subst r
  cases z with
  | true => exact ⟨H0, ρ0, B, O, ρ1, η, h1, S.grow g m, p1⟩
  | false => exact ⟨H0, ρ0, B, O, ρ1, η, h1, S.grow g m, p1⟩
end
end MP
set_option maxHeartbeats 4000000
set_option autoImplicit false
namespace MP
open PySem PySem.Spec PyProof.Rows L2
theorem Own.to {K : KC} {H H' : Hp} {M M' ρ ρ' : List Addr} (e : Ext H M H' M') (p : ρ <+: ρ') {a : Addr} (k : ∀ o, H a = some o → H' a = some o) {x : Val} (w : Own K H M ρ a x) : Own K H' M' ρ' a x := by
  cases x with
  | lst vs =>
    obtain ⟨Vs, q, r⟩ := w
    exact ⟨Vs, k _ q, r.ext e p⟩
  | dK ks vs =>
    obtain ⟨Vs, q, l, n, o, r⟩ := w
    exact ⟨Vs, k _ q, l, n, o, r.ext e p⟩
  | dT ks vs =>
    obtain ⟨Vs, q, l, n, r⟩ := w
    exact ⟨Vs, k _ q, l, n, r.ext e p⟩
  | _ => exact w.elim
theorem newObj_grow {H : Hp} {ρ : List Addr} {p : Addr} {o : HO} (hp : H p = none) : Grow ρ H (ρ ++ [p]) (upd H p o) :=
  ⟨List.prefix_append _ _, fun a ha => by
    rw [List.drop_left, List.mem_singleton] at ha
    subst ha; exact hp, fun a q e _ => Same.new hp a q e, fun a q e => ⟨q, Same.new hp a q e⟩⟩
theorem newObj_mh {K : KC} {H : Hp} {O ρ : List Addr} {p : Addr} {h : MH} {Vs : List V} {vs : List Val} (m : MHR K H (O ++ ρ) ρ h) (hp : H p = none) (al : ∀ a, a ∈ O ++ ρ → ∃ o', H a = some o') (r : RepL K (off H (O ++ ρ)) ρ Vs vs) :
    MHR K (upd H p (.lst Vs)) (O ++ (ρ ++ [p])) (ρ ++ [p]) (h ++ [.lst vs]) := by
  have g : Grow ρ H (ρ ++ [p]) (upd H p (.lst Vs)) := newObj_grow hp
  refine ⟨by rw [List.length_append, List.length_append, m.len]; rfl, ?_, fun k o a e1 e2 => ?_⟩
  · rw [List.nodup_append]
    refine ⟨m.nd, by simp, fun a ha b hb => ?_⟩
    rw [List.mem_singleton] at hb
    subst hb
    intro e
    subst e
    obtain ⟨o', q⟩ := al a (List.mem_append_right _ ha)
    rw [hp] at q; cases q
  · by_cases hk : k < h.length
    · rw [List.getElem?_append_left hk] at e1
      rw [List.getElem?_append_left (by rw [m.len]; exact hk)] at e2
      exact (m.at_ k o a e1 e2).to g.ext g.pre fun q hq => Same.new hp a q hq
    · have hk2 : k = h.length := by
        obtain ⟨h1, _⟩ := List.getElem?_eq_some_iff.mp e1
        rw [List.length_append] at h1
        simp at h1; omega
      subst hk2
      rw [List.getElem?_append_right (Nat.le_refl _)] at e1
      rw [← m.len, List.getElem?_append_right (Nat.le_refl _)] at e2
      simp at e1 e2
      subst e1 e2
      exact ⟨Vs, upd_same, r.ext g.ext g.pre⟩
section
variable {X : Cx} {ck : List (List Ky)} {W : WX} {T : Nat → Fn} {b : Bool}
theorem a_nil : PA X [] (tEs (kc X ck) W T .nil) := PA.imp pa_nil fun pins s σ H Q I ⟨H0, ρ0, B, O, ρ, η, h, S, p⟩ => Pst.ok p S.mh .nil
theorem a_cons {e : E} {es : Es} {ee : Expr} {ees : List Expr} (ha : PE X ee (tE (kc X ck) W T false e)) (hr : PA X ees (tEs (kc X ck) W T es)) (hs : starEach (ee :: ees) X.env = (false, eval ee X.env) :: starEach ees X.env) : PA X (ee :: ees) (tEs (kc X ck) W T (.cons e es)) := by
  refine PA.imp (pa_cons ha hr hs) fun pins s σ H Q I ⟨H0, ρ0, B, O, ρ, η, h, S, p⟩ => ?_
  refine ⟨H0, ρ0, B, O, ρ, η, h, S, p.bind fun z v ρ1 H1 h1 g m r p1 => ?_⟩
  refine ⟨H0, ρ0, B, O, ρ1, η, h1, S.grow g m, p1.bind fun zs vs ρ2 H2 h2 g2 m2 r2 p2 => ?_⟩
  exact Pst.ok p2 m2 (.cons (r.grow g2).ff r2)
theorem a_star {e : E} {es : Es} {ee : Expr} {ees : List Expr} {q : Pos} (ha : PE X ee (tE (kc X ck) W T true e)) (hr : PA X ees (tEs (kc X ck) W T es)) : PA X (.Starred ee q :: ees) (tEs (kc X ck) W T (.star e es)) := by
  refine PA.imp (StX.pa_star ha hr) fun pins s σ H Q I ⟨H0, ρ0, B, O, ρ, η, h, S, p⟩ => ?_
  refine ⟨H0, ρ0, B, O, ρ, η, h, S, p.bind fun z v ρ1 H1 h1 g m r p1 => ?_⟩
  cases v with
  | tup l =>
    obtain ⟨a, Vs, rfl, t1, t2, _⟩ := r.tup_
    refine ⟨a, Vs, rfl, .inl t1, H0, ρ0, B, O, ρ1, η, h1, S.grow g m, p1.bind fun zs vs ρ2 H2 h2 g2 m2 r2 p2 => ?_⟩
    exact Pst.ok p2 m2 ((t2.ext g2.ext g2.pre).append r2)
  | lst l =>
    obtain ⟨a, Vs, rfl, t1, t2⟩ := r.lst_
    refine ⟨a, Vs, rfl, .inr t1, H0, ρ0, B, O, ρ1, η, h1, S.grow g m, p1.bind fun zs vs ρ2 H2 h2 g2 m2 r2 p2 => ?_⟩
    exact Pst.ok p2 m2 ((t2.ext g2.ext g2.pre).append r2)
  | _ => exact p1.elim
theorem b_nil : PA X [] (tBs (kc X ck) W T .nil) := PA.imp pa_nil fun pins s σ H Q I ⟨H0, ρ0, B, O, ρ, η, h, S, p⟩ => Pst.ok p S.mh .nil
theorem b_cons {e : E} {es : Es} {ee : Expr} {ees : List Expr} (ha : PE X ee (tE (kc X ck) W T true e)) (hr : PA X ees (tBs (kc X ck) W T es)) (hs : starEach (ee :: ees) X.env = (false, eval ee X.env) :: starEach ees X.env) : PA X (ee :: ees) (tBs (kc X ck) W T (.cons e es)) := by
  refine PA.imp (pa_cons ha hr hs) fun pins s σ H Q I ⟨H0, ρ0, B, O, ρ, η, h, S, p⟩ => ?_
  refine ⟨H0, ρ0, B, O, ρ, η, h, S, p.bind fun z v ρ1 H1 h1 g m r p1 => ?_⟩
  refine ⟨H0, ρ0, B, O, ρ1, η, h1, S.grow g m, p1.bind fun zs vs ρ2 H2 h2 g2 m2 r2 p2 => ?_⟩
  exact Pst.ok p2 m2 (.cons (r.grow g2) r2)
theorem e_tup {es : Es} {ees : List Expr} {k : Nat} {pos : Pos} (ha : PA X ees (tEs (kc X ck) W T es)) : PE X (.Tuple ees k pos) (tE (kc X ck) W T b (.tup es)) := by
  refine PE.imp (pe_tup ha) fun pins s σ H Q I ⟨H0, ρ0, B, O, ρ, η, h, S, p⟩ => ?_
  refine ⟨H0, ρ0, B, O, ρ, η, h, S, p.bind fun zs vs ρ1 H1 h1 g m r p1 => ?_⟩
  split at p1
  · rename_i hz
    refine ⟨by rw [r.length, ← sz_line]; exact hz, ?_⟩
    exact (Pst.made p1 m).tup (S.grow g m).alive r
  · exact p1.elim
theorem e_lst {es : Es} {ees : List Expr} {pos : Pos} (ha : PA X ees (tEs (kc X ck) W T es)) : PE X (.List ees pos) (tE (kc X ck) W T b (.lst es)) := by
  refine PE.imp (pe_lst ha) fun pins s σ H Q I ⟨H0, ρ0, B, O, ρ, η, h, S, p⟩ => ?_
  refine ⟨H0, ρ0, B, O, ρ, η, h, S, p.bind fun zs vs ρ1 H1 h1 g m r p1 => ?_⟩
  split at p1
  · rename_i hz
    refine ⟨by rw [r.length, ← sz_line]; exact hz, ?_⟩
    exact (Pst.made p1 m).lst (S.grow g m).alive r
  · exact p1.elim
theorem e_newObj {es : Es} {ees : List Expr} {pos : Pos} (ha : PA X ees (tEs (kc X ck) W T es)) : PE X (.List ees pos) (tE (kc X ck) W T b (.newObj es)) := by
  refine PE.imp (pe_lst ha) fun pins s σ H Q I ⟨H0, ρ0, B, O, ρ, η, h, S, p⟩ => ?_
  refine ⟨H0, ρ0, B, O, ρ, η, h, S, p.bind fun zs vs ρ1 H1 h1 g m r p1 => ?_⟩
  split at p1
  · rename_i hz
    refine ⟨by rw [r.length, ← sz_line]; exact hz, fun q hq => ?_⟩
    refine p1 (.ref q) (ρ1 ++ [q]) _ (newObj_grow hq) (newObj_mh m hq (S.grow g m).alive r) (.inl (.obj ?_))
    rw [← m.len, List.getElem?_append_right (Nat.le_refl _)]
    simp
  · exact p1.elim
theorem e_sub (hu : X.A.units + 65 < cLine) {a i : E} {ea ei : Expr} {pos : Pos} (ha : PE X ea (tE (kc X ck) W T true a)) (hi : PE X ei (tE (kc X ck) W T true i)) (hs : PlainIx ei) : PE X (.Subscript ea ei pos) (tE (kc X ck) W T b (.sub a i)) := by
  refine PE.imp (pe_ix (ix_sub (ck := ck) (by omega)) ha hi hs) fun pins s σ H Q I ⟨H0, ρ0, B, O, ρ, η, h, S, p⟩ => ?_
  refine two S p fun x y v w ρ2 H2 h2 S2 rx ry p2 => ?_
  obtain ⟨u, eu, p2⟩ := Pst.opt p2
  exact ⟨O, ρ2, h2, v, w, u, eu, rx, ry, S2.mh, fun z r => Pst.ok p2 S2.mh (.inl r)⟩
def tOp' (o : Op) : TO := fun σ H Q => ∃ H0 ρ0 B O ρ η h, St (kc X ck) H0 ρ0 B O ρ η h σ H ∧ Pst (kc X ck) W σ O ρ H (fun _ _ z v => z = v) Q (evOp T o η h)
theorem o_no : PO X none (tOp' (X := X) (ck := ck) (W := W) (T := T) .no) := by
  refine ⟨fun pins s σ H Q I ⟨H0, ρ0, B, O, ρ, η, h, S, p⟩ => po_none.run pins s σ H Q I ?_⟩
  exact p none ρ H Grow.refl S.mh rfl
theorem o_yes {e : E} {ee : Expr} (he : PE X ee (tE (kc X ck) W T true e)) : PO X (some ee) (tOp' (X := X) (ck := ck) (W := W) (T := T) (.yes e)) := by
  refine ⟨fun pins s σ H Q I ⟨H0, ρ0, B, O, ρ, η, h, S, p⟩ => (po_some he).run pins s σ H Q I ?_⟩
  refine ⟨H0, ρ0, B, O, ρ, η, h, S, Pst.bind p fun z v ρ1 H1 h1 g m r p1 => ?_⟩
  cases v with
  | int i =>
    obtain rfl := r.int_
    exact ⟨i, rfl, p1 (some i) ρ1 H1 Grow.refl m rfl⟩
  | _ => exact p1.elim
theorem e_slice {a : E} {lo hi : Op} {ea : Expr} {elo ehi : Option Expr} {p2 pos : Pos} (ha : PE X ea (tE (kc X ck) W T true a)) (hlo : PO X elo (tOp' (X := X) (ck := ck) (W := W) (T := T) lo)) (hhi : PO X ehi (tOp' (X := X) (ck := ck) (W := W) (T := T) hi)) :
    PE X (.Subscript ea (.Slice elo ehi none p2) pos) (tE (kc X ck) W T b (.sliceE a lo hi)) := by
  refine PE.imp (pe_slice (sl_all (ck := ck)) ha hlo hhi) fun pins s σ H Q I ⟨H0, ρ0, B, O, ρ, η, h, S, p⟩ => ?_
  refine ⟨H0, ρ0, B, O, ρ, η, h, S, p.bind fun z v ρ1 H1 h1 g m r p1 => ?_⟩
  refine ⟨H0, ρ0, B, O, ρ1, η, h1, S.grow g m, p1.bind fun l l' ρ2 H2 h2 g2 m2 r2 p2 => ?_⟩
  subst r2
  refine ⟨H0, ρ0, B, O, ρ2, η, h2, (S.grow g m).grow g2 m2, p2.bind fun u u' ρ3 H3 h3 g3 m3 r3 p3 => ?_⟩
  subst r3
  obtain ⟨w, ew, p3⟩ := Pst.opt p3
  exact ⟨O, ρ3, v, w, ew, (r.grow g2).grow g3, (((S.grow g m).grow g2 m2).grow g3 m3).alive, Pst.made p3 m3⟩
theorem e_rev {a : E} {ea : Expr} {k : Nat} {p1 p2 p3 pos : Pos} (ha : PE X ea (tE (kc X ck) W T true a)) : PE X (.Subscript ea (.Slice none none (some (.UnaryOp .USub (.Constant (.int 1) k p1) p2)) p3) pos) (tE (kc X ck) W T b (.rev a)) := by
  refine PE.imp (pe_rev (ck := ck) ha) fun pins s σ H Q I ⟨H0, ρ0, B, O, ρ, η, h, S, p⟩ => ?_
  refine ⟨H0, ρ0, B, O, ρ, η, h, S, p.bind fun z v ρ1 H1 h1 g m r p1 => ?_⟩
  obtain ⟨w, ew, p1⟩ := Pst.opt p1
  exact ⟨O, ρ1, v, w, ew, r, (S.grow g m).alive, Pst.made p1 m⟩
theorem e_blt {bl : Blt} {es : Es} {ee : Expr} {ees : List Expr} {x : PySem.Str} {p0 pos : Pos} {T0 : String} (hb : bfn bl = .builtin T0) (hg : Gl X x) (hm : (X.mg x = none ∧ bootBuiltins x = some (.builtin T0) ∧ x ≠ "__name__") ∨ X.mg x = some (.builtin T0)) (ha : PA X (ee :: ees) (tBs (kc X ck) W T es)) (hc : X.calm = true)
    (hdb : (x == ("__debug__" : PySem.Str)) = false) (he : starEach (ee :: ees) X.env = (false, eval ee X.env) :: starEach ees X.env) (hpl : (backTo pos (starEach ees X.env)).any (·.1) = false) : PE X (.Call (.Name x p0) (ee :: ees) [] pos) (tE (kc X ck) W T b (.blt bl es)) := by
  have cr := call_blt (ck := ck) hc bl
  rw [hb] at cr
  have base : PE X (.Call (.Name x p0) (ee :: ees) [] pos) (tCB (rBlt ⟨X.K, ck⟩ bl) (tBs (kc X ck) W T es)) := by
    rcases hm with ⟨h1, h2, h3⟩ | h1
    · exact pe_callB cr hg h1 h2 ha h3 hdb he hpl
    · exact pe_callBfun cr hg h1 ha hdb he hpl
  refine PE.imp base fun pins s σ H Q I ⟨H0, ρ0, B, O, ρ, η, h, S, p⟩ => ?_
  refine ⟨H0, ρ0, B, O, ρ, η, h, S, p.bind fun zs vs ρ1 H1 h1 g m r p1 => ?_⟩
  obtain ⟨w, ew, p1⟩ := Pst.opt p1
  exact ⟨O, ρ1, vs, w, ew, r, (S.grow g m).alive, Pst.made p1 m⟩
theorem e_bty {bl : Blt} {es : Es} {ee : Expr} {ees : List Expr} {x : PySem.Str} {p0 pos : Pos} {T0 : String} (hb : bfn bl = .type T0) (hg : Gl X x) (hm : X.mg x = none) (hv : bootBuiltins x = some (.type T0)) (hn : x ≠ "__name__") (ha : PA X (ee :: ees) (tBs (kc X ck) W T es)) (hc : X.calm = true)
    (hdb : (x == ("__debug__" : PySem.Str)) = false) (he : starEach (ee :: ees) X.env = (false, eval ee X.env) :: starEach ees X.env) (hpl : (backTo pos (starEach ees X.env)).any (·.1) = false) : PE X (.Call (.Name x p0) (ee :: ees) [] pos) (tE (kc X ck) W T b (.blt bl es)) := by
  have cr := call_blt (ck := ck) hc bl
  rw [hb] at cr
  refine PE.imp (pe_callTy cr hg hm hv ha hn hdb he hpl) fun pins s σ H Q I ⟨H0, ρ0, B, O, ρ, η, h, S, p⟩ => ?_
  refine ⟨H0, ρ0, B, O, ρ, η, h, S, p.bind fun zs vs ρ1 H1 h1 g m r p1 => ?_⟩
  obtain ⟨w, ew, p1⟩ := Pst.opt p1
  exact ⟨O, ρ1, vs, w, ew, r, (S.grow g m).alive, Pst.made p1 m⟩
theorem e_join {a : E} {es : Es} {ea ee : Expr} {apos cpos : Pos} (ha : PE X ea (tE (kc X ck) W T true a)) (he : PA X [ee] (tBs (kc X ck) W T es)) (hb : attributeBase ea "join" X.env (eval ea X.env) = eval ea X.env)
    (hs : starEach [ee] X.env = [(false, eval ee X.env)]) (hline : (apos.endLine == cpos.line) = true) : PE X (.Call (.Attribute ea "join" apos) [ee] [] cpos) (tE (kc X ck) W T b (.meth .join a es)) := by
  refine PE.imp (pe_bm PySem.F.plainAttrs_str PySem.F.slot_str_join PySem.F.type_str_join (mt_join' (ck := ck)) ha he hb (by rw [hs]; rfl) hline hs rfl) fun pins s σ H Q I ⟨H0, ρ0, B, O, ρ, η, h, S, p⟩ => ?_
  refine ⟨H0, ρ0, B, O, ρ, η, h, S, p.bind fun z v ρ1 H1 h1 g m r p1 => ?_⟩
  split at p1
  · rename_i ht
    cases v with
    | str x =>
      obtain ⟨rfl, ok⟩ := r.str_
      refine ⟨rfl, H0, ρ0, B, O, ρ1, η, h1, S.grow g m, p1.bind fun zs vs ρ2 H2 h2 g2 m2 r2 p2 => ?_⟩
      obtain ⟨w, ew, p2⟩ := Pst.opt p2
      exact ⟨O, ρ2, _, vs, w, ew, r.grow g2, r2, ((S.grow g m).grow g2 m2).alive, Pst.made p2 m2⟩
    | _ => exact absurd ht (by simp [mthTy])
  · exact p1.elim
end
end MP
set_option maxHeartbeats 4000000
set_option autoImplicit false
namespace MP
open PySem PySem.Spec PyProof.Rows L2
structure Quiet (k : Nat) (A : Around) : Prop where
  room : Room k A
  told : A.guards = some []
theorem Quiet.mono {j k : Nat} {A : Around} (q : Quiet k A) (h : j ≤ k) : Quiet j A := ⟨q.room.mono h, q.told⟩
theorem Quiet.deeper {k : Nat} {A : Around} (q : Quiet (k + 1) A) (env : PySem.Env) : Quiet k (A.deeper env) := ⟨q.room.deeper env, q.told⟩
structure FnA (P : Program) (w : World) (K : PySem.W.Frag) (mg : PySem.Str → Option Value) (base : Heap) (CX : CXT) (A : Around) (f : Addr) (fd : FuncData) (ps : List PySem.Str) (sp : Sp) : Prop where
  len : ∀ Vs H Q E, sp Vs H Q E → Vs.length = ps.length
  go : ∀ (out : List PySem.Env) (s : Shared) (H : Hp) (as : Args) (us : List Value) (Vs : List V) (Q : VK) (E : XK), Env0 P w K mg base A out s H → BindsTo s fd as (ps.zip us) → Vals Vs us → sp Vs H Q E →
    codeAny (model P w) A (.call (.ref f) as) (CR CX out P w H s Q E) s
abbrev FnG (P : Program) (w : World) (K : PySem.W.Frag) (mg : PySem.Str → Option Value) (base : Heap) (CX : CXT) (k : Nat) (f : Addr) (fd : FuncData) (ps : List PySem.Str) (sp : Sp) : Prop :=
  ∀ A : Around, Quiet k A → FnA P w K mg base CX A f fd ps sp
section
variable {X : Cx} {CX : CXT} {f : Addr} {fd : FuncData} {ps : List PySem.Str} {sp : Sp} {E : L2.St → XK} {x : PySem.Str} {p pos : Pos} {e : Expr} {es : List Expr} {t : TA}
theorem go_fn {pins : List (Addr × Obj)} {σ : L2.St} {H : Hp} {s : Shared} {Q : VK} {us : List Value} {Vs : List V} (F : FnA X.prog X.w X.K X.mg X.base CX X.A f fd ps sp) (hb : Binds X.K fd ps []) (hx : PassesAt CX X σ (E σ)) (I : L2.Inv X pins σ H s) (rv : Vals Vs us)
    (h : sp Vs H Q (E σ)) : wpAny (model X.prog X.w) X.A (call (.ref f) us) (EP X pins σ Q) X.xe s := by
  have n : (us ++ []).length = ps.length := by
    rw [List.append_nil, ← rv.length]; exact F.len _ _ _ _ h
  have B := hb s us I.kIn n
  rw [List.append_nil] at B
  have C := F.go X.stack s H ⟨us, []⟩ us Vs Q (E σ) I.env0 B rv h
  refine wpAny_call (codeAny_mono C fun res s' q => ?_)
  match res, q with
  | .error e, q => exact hx pins H s e s' I q
  | .ok (.ret u), q => exact I.after q
  | .ok .next, q => exact q.elim
  | .ok .brk, q => exact q.elim
  | .ok .cont, q => exact q.elim
theorem pe_callA (F : FnA X.prog X.w X.K X.mg X.base CX X.A f fd ps sp) (hg : Gl X x) (hm : X.mg x = some (.ref f)) (hk : PySem.W.keepIn X.K (.ref f) = true) (hb : Binds X.K fd ps []) (hx : ∀ σ, PassesAt CX X σ (E σ)) (ha : PA X (e :: es) t) (hdb : (x == ("__debug__" : PySem.Str)) = false)
    (he : starEach (e :: es) X.env = (false, eval e X.env) :: starEach es X.env) (hpl : (backTo pos (starEach es X.env)).any (·.1) = false) : PE X (.Call (.Name x p) (e :: es) [] pos) (tCallS sp E t) :=
  ⟨fun pins s σ H Q I h => wpAny_Call_Name_kw (ld_glob I hg hm (PySem.W.callWith_K (h₀ := X.base) I.ok.mod.kin hk (thn (ha.run pos pins s σ H _ I h) fun us s1 ⟨Vs, H1, I1, rv, q⟩ => ⟨I1.kIn, go_fn F hb (hx σ) I1 rv q⟩) he hpl) hdb)⟩
end
section
variable {P : Program} {w : World} {K : PySem.W.Frag} {mg : PySem.Str → Option Value} {base : Heap} {f : Addr} {N ps : List PySem.Str} {sp : Sp} {CX : CXT}
theorem fn_quiet {x qual : PySem.Str} {params : Arguments} {body : List Stmt} {scope : Scope} {fd : FuncData} {k : Nat} (F : FunD K x qual params body scope [] [] f fd) (S : FnScope N ps scope) (len : ∀ Vs H Q E, sp Vs H Q E → Vs.length = ps.length)
    (hbody : ∀ (cdv : Value) (A : Around) (out : List PySem.Env) (s : Shared) (H : Hp) (Vs : List V) (Q : VK) (E : XK), Quiet k (A.deeper (envOfC qual scope s.heap.objs.size f cdv)) → sp Vs H Q E →
      ∃ t, PSs (cxOf CX P w K mg base N qual scope f cdv A out s H E) body t ∧ t { nx := fun _ H' => Q .non H', rt := Q } (L2.start N Vs) H) : FnG P w K mg base CX (k + 1) f fd ps sp := fun A q => by
  obtain ⟨oc, od, dV, kV, doc, pm, an, cdv, ct, osl, rfl, lk, hcd, _, _⟩ := F.ex
  constructor
  · exact len
  intro out s H as us Vs Q E e0 hb rv h
  have keeps : ∀ b o, base.get? b = some o → s.heap.get? b = some o := fun b o e => (e0.bs b o e).1
  have KX := e0.mod.kin.keeps keeps
  refine codeAny_call_function q.room.depth (KX _ _ lk) rfl S.co S.gen rfl (PySem.W.codeRec_of KX hcd) (hb _ _ _ _ ?_)
  have kinds : ∀ y ∈ ps.zip us, scope.names.lookup y.1 = some .local ∨ (scope.names.lookup y.1 = some .cell ∧ ((cellsFrom (s.heap.objs.size + 1) scope.names []).lookup y.1).isSome = true) := by
    rintro ⟨n, v⟩ hy
    rcases S.par n (List.of_mem_zip hy).1 with l | l
    · exact .inl l
    · exact .inr ⟨l, PySem.W.cellsFrom_some _ _ _ (.inl l)⟩
  refine wpAny_newFunctionEnv_cells S.kind kinds fun env ee s1 ic => ?_
  subst ee
  obtain ⟨t, ht, hq⟩ := hbody cdv A out s H Vs Q E (q.deeper _) h
  have I : L2.Inv (cxOf CX P w K mg base N qual scope f cdv A out s H E) [] (L2.start N Vs) H s1 := inv_start S q.room.hd e0 (len _ _ _ _ h) rv ic
  have done : ∀ {σ' : L2.St} {H' : Hp} {s' : Shared} {v : V} {u : Value}, L2.Inv (cxOf CX P w K mg base N qual scope f cdv A out s H E) [] σ' H' s' → RelV v u → Q v H' → CE out P w H s Q u s' := fun J r q => ⟨_, _, J.os, J.bare, J.base, J.hok, r, q⟩
  refine ⟨(e0.mod.nolimit.keeps keeps).keeps ic.toInCall.keep, codeAny_func (wpAny_mono (ht.run [] s1 _ H _ I hq) (fun fl s' z => ?_) fun e s' z => z)⟩
  match fl, z with
  | .ret u, ⟨v, σ', H', J, r, q⟩ => exact done J r q
  | .next, ⟨σ', H', J, q⟩ => exact done (v := .non) (u := .none) J rfl q
  | .brk, ⟨_, _, _, q⟩ => exact q.elim
  | .cont, ⟨_, _, _, q⟩ => exact q.elim
end
section
variable {P : Program} {w : World} {K : PySem.W.Frag} {mg mb : PySem.Str → Option Value} {CX : CXT} {fa a : Addr} {fd : FuncData} {x : PySem.Str} {sp : Sp} {s : Shared} {vs : List Value} {ns : List Int}
abbrev LawEnds (P : Program) (w : World) (fa a : Addr) (s : Shared) : Prop :=
  codeAny (model P w) callerA (.call (.ref fa) ⟨[.ref a], []⟩) (fun r s' => r = .ok (.ret (.bool true)) ∧ OldK s.heap s'.heap ∧ s'.os = s.os ∧ AllBare s'.gens) s
theorem ends_of {H : Hp} (KX : K.In s.heap) (hns : s.heap.Ns mainGlobals mg) (hb : s.heap.Ns builtinsNs mb) (hbb : ∀ x : PySem.Str, x ≠ "__name__" → mb x = bootBuiltins x) (hlim : s.heap.NoLimit) (hg : s.gens = #[]) (ha : s.heap.get? a = some { cls := .type "list", data := .seq vs.toArray })
    (F : ∀ base : Heap, K.In base → base.Ns mainGlobals mg → FnA P w K mg base CX callerA fa fd [x] sp) (hbind : ∀ (s : Shared) (u : Value), BindsTo s fd ⟨[u], []⟩ [(x, u)]) (hsp : sp [.ref a] H (fun v _ => v = .bl true) fun _ _ _ => False)
    (hCX : ∀ e s', CX [] H s (fun _ _ _ => False) e s' → False) (hO : Only H) (hok : HOk P w H s.heap) (hA : ∀ b, H b ≠ none → b = a) (hK : H a ≠ none → K.lookup a = none) : LawEnds P w fa a s := by
  have isA : ∀ {b : Addr} {u : HO}, H b = some u → b = a := fun {b u} e => hA b (by rw [e]; exact fun z => by cases z)
  have stays : ∀ {b : Addr} {o : Obj}, s.heap.get? b = some o → H b = none → (hidT s.heap H).get? b = some o := fun e n => hidT_get e n
  have dicts : ∀ {b : Addr} {m : PySem.Str → Option Value}, s.heap.Ns b m → (hidT s.heap H).Ns b m := by
    rintro b m ⟨o, es, ep, e, d, r⟩
    refine ⟨o, es, ep, stays e ?_, d, r⟩
    rcases h : H b with _ | u
    · rfl
    · have eb := isA h
      subst eb
      rw [ha] at e
      cases e
      cases (show Data.seq vs.toArray _ = Data.dict es ep from d)
  have Kb : K.In (hidT s.heap H) := fun b o e => stays (KX b o e) (by
    rcases h : H b with _ | u
    · rfl
    · have eb := isA h
      subst eb
      have n := hK (by rw [h]; exact fun z => by cases z)
      rw [e] at n; cases n)
  obtain ⟨ml, l1, l2⟩ := hlim
  have md : Mod K mg (hidT s.heap H) := ⟨Kb, dicts hns, ⟨mb, dicts hb, hbb⟩, ⟨ml, dicts l1, l2⟩⟩
  have e0 : Env0 P w K mg (hidT s.heap H) callerA [] s H :=
    { frames := rfl, mod := md, bs := fun b o e => of_hidT e, bsz := Nat.le_of_eq (hidT_size _ _), funs := trivial, frf := (fun b hb => absurd (show b ∈ ([] : List Addr) from hb) (List.not_mem_nil)), hok := hok, bare := .of_eq hg }
  have C := (F _ Kb (dicts hns)).go [] s H ⟨[.ref a], []⟩ [.ref a] [.ref a] _ _ e0 (hbind s (.ref a)) (.cons rfl .nil) hsp
  refine codeAny_mono C fun res s' q => ?_
  match res, q with
  | .error e, q => exact (hCX e s' q).elim
  | .ok .next, q => exact q.elim
  | .ok .brk, q => exact q.elim
  | .ok .cont, q => exact q.elim
  | .ok (.ret u), ⟨v, H', os, bare, un, hok', ru, qv⟩ =>
    have ev : v = .bl true := qv
    subst ev
    have eu : u = Value.bool true := ru
    subst eu
    refine ⟨rfl, OldK.of_keep fun b o e => ?_, os, bare⟩
    rcases h : H b with _ | u
    · exact un.keep b o e h (fun z => by cases z) (fun z => by cases z)
    · rcases hO b with z | ⟨ob, xs, z⟩
      · rw [h] at z; cases z
      · have g1 := (hok b _ z).1
        have g2 := (hok' b _ (un.frzs b ob _ z)).1
        rw [e] at g1
        cases g1
        exact g2
theorem law_ends (KX : K.In s.heap) (hns : s.heap.Ns mainGlobals mg) (hb : s.heap.Ns builtinsNs mb) (hbb : ∀ x : PySem.Str, x ≠ "__name__" → mb x = bootBuiltins x) (hlim : s.heap.NoLimit) (hg : s.gens = #[]) (ha : s.heap.get? a = some { cls := .type "list", data := .seq vs.toArray }) (hi : IntsAre vs ns)
    (hl : ns.length ≤ sizeLine) (F : ∀ base : Heap, K.In base → base.Ns mainGlobals mg → FnA P w K mg base CX callerA fa fd [x] sp) (hbind : ∀ (s : Shared) (u : Value), BindsTo s fd ⟨[u], []⟩ [(x, u)])
    (hsp : ∀ H : Hp, Only H → SqL K H a (ns.map V.int) → sp [.ref a] H (fun v _ => v = .bl true) fun _ _ _ => False) (hCX : ∀ H e s', CX [] H s (fun _ _ _ => False) e s' → False) : LawEnds P w fa a s := by
  have rv := vals_ints hi
  have len := hi.length
  rcases hk : K.lookup a with _ | o
  · -- the script is new: the heap knows it alone
    let O : HO := .frz { cls := .type "list", data := .seq vs.toArray } (.lst (ns.map V.int))
    let H : Hp := fun b => if b = a then some O else none
    have Ha : H a = some O := if_pos rfl
    have Hn : ∀ {b : Addr}, b ≠ a → H b = none := fun n => if_neg n
    have only : Only H := fun b => by
      by_cases e : b = a
      · subst e; exact .inr ⟨_, _, Ha⟩
      · exact .inl (Hn e)
    have hok : HOk P w H s.heap := fun b u z => by
      by_cases e : b = a
      · subst e
        rw [Ha] at z
        cases z
        exact ⟨ha, by rw [List.length_map]; exact hl, vs, _, rv, ha⟩
      · rw [Hn e] at z; cases z
    refine ends_of KX hns hb hbb hlim hg ha F hbind (hsp H only (.inl (.inr ⟨_, Ha⟩))) (hCX H) only hok (fun b z => ?_) fun _ => hk
    by_cases e : b = a
    · exact e
    · exact absurd (Hn e) z
  · -- it is one of the module's own
    have e := KX a o hk
    rw [ha] at e
    cases e
    have only : Only (fun _ => none) := fun _ => .inl rfl
    refine ends_of KX hns hb hbb hlim hg ha F hbind (hsp _ only (.inr ⟨_, vs.toArray, _, hk, rfl, rfl, rfl, ?_, ?_⟩)) (hCX _) only (fun b u z => by cases (show (none : Option HO) = some u from z)) (fun b z => absurd rfl z) fun z => absurd rfl z
    · rw [List.size_toArray, len]; exact hl
    · simpa using rv
end
end MP
set_option maxHeartbeats 4000000
set_option autoImplicit false
namespace MP
open PySem PySem.Spec PyProof.Rows L2
section
variable (K : KC)
def spF (F : Fn) (n : Nat) : Sp := fun Vs H Q E => ∃ B ρ vs h, vs.length = n ∧ RepL K (off H (B ++ ρ)) ρ Vs vs ∧ (∀ a ∈ B, a ∉ ρ ∧ ∃ o, H a = some o) ∧ MHR K H (B ++ ρ) ρ h ∧
  Pst K (fun c d _ H => E c d H) [] B ρ H (fun H' ρ' z v => Rep K (off H' (B ++ ρ')) ρ' z v) Q (F vs h)
end
section
variable {X : Cx} {ck : List (List Ky)} {W : WX} {T : Nat → Fn} {b : Bool}
theorem e_call {i n : Nat} {es : Es} {ee : Expr} {ees : List Expr} {x : PySem.Str} {p0 pos : Pos} {f : Addr} {fd : FuncData} {ps : List PySem.Str} (F : FnA X.prog X.w X.K X.mg X.base (L2.CX X.prog X.w) X.A f fd ps (spF (kc X ck) (T i) n)) (hg : Gl X x) (hm : X.mg x = some (.ref f)) (hk : PySem.W.keepIn X.K (.ref f) = true) (hb : Binds X.K fd ps [])
    (tk : Takes X W) (ha : PA X (ee :: ees) (tEs (kc X ck) W T es)) (hn : ∀ η h vs h', evEs T es η h = .ok vs h' → vs.length = n) (hdb : (x == ("__debug__" : PySem.Str)) = false) (he : starEach (ee :: ees) X.env = (false, eval ee X.env) :: starEach ees X.env) (hpl : (backTo pos (starEach ees X.env)).any (·.1) = false) :
    PE X (.Call (.Name x p0) (ee :: ees) [] pos) (tE (kc X ck) W T b (.call i es)) := by
  refine PE.imp (pe_callA F hg hm hk hb (fun σ => passAt tk σ) ha hdb he hpl) fun pins s σ H Q I ⟨H0, ρ0, B, O, ρ, η, h, S, p⟩ => ?_
  have p' : Pst (kc X ck) W σ O ρ H (fun H' ρ' z v => RepB (kc X ck) H' O ρ' b z v) Q ((evEs T es η h).bind fun vs h1 => T i vs h1) := p
  cases ev : evEs T es η h with
  | exc x h' => rw [ev] at p'; exact ⟨H0, ρ0, B, O, ρ, η, h, S, by rw [ev]; exact p'⟩
  | bad => rw [ev] at p'; exact p'.elim
  | ok vs h' =>
    refine ⟨H0, ρ0, B, O, ρ, η, h, S, ?_⟩
    rw [ev] at p' ⊢
    intro zs ρ1 H1 g m r
    refine ⟨O, ρ1, vs, h', hn _ _ _ _ ev, r, fun a ha => ⟨(S.grow g m).sep a ha, (S.grow g m).liv a ha⟩, m, ?_⟩
    have p2 := Pst.shift g p'
    cases et : T i vs h' with
    | ok v h2 => intro z ρ2 H2 g2 m2 r2; rw [show (Res.ok vs h').bind (fun vs h1 => T i vs h1) = T i vs h' from rfl, et] at p2; exact p2 z ρ2 H2 g2 m2 (.inl r2)
    | exc e h2 => intro c d ρ2 H2 g2 m2 r2; rw [show (Res.ok vs h').bind (fun vs h1 => T i vs h1) = T i vs h' from rfl, et] at p2; exact p2 c d ρ2 H2 g2 m2 r2
    | bad => rw [show (Res.ok vs h').bind (fun vs h1 => T i vs h1) = T i vs h' from rfl, et] at p2; exact p2
end
section
variable (K : PySem.W.Frag)
def gNs : List Nat → TGs
  | [] => gNil
  | i :: is => gCons (gName i) (gNs is)
def gT : Tg → TG
  | .name i => gName i
  | .tup is => gTup K is.length (gNs is)
end
def tgIx : Tg → List Nat
  | .name i => [i]
  | .tup is => is
section
variable {K : KC} {H0 H : Hp} {ρ0 B O ρ : List Addr} {η η' : Env} {h : MH} {σ : L2.St}
theorem St.set {i : Nat} {x : Val} {z : V} (S : St K H0 ρ0 B O ρ η h σ H) (r : Rep K (off H (O ++ ρ)) ρ z x) : St K H0 ρ0 B O ρ (η.set i (.v x)) h (σ.set i (some z)) H := by
  refine ⟨by rw [List.length_set, List.length_set, S.len], fun j y e => ?_, fun j y e => ?_, fun j k y w a e1 e2 e3 e4 => ?_, S.sep, S.liv, S.bar, S.mh, S.pre, S.new, S.keep, S.ali⟩
  · by_cases hj : i = j
    · subst hj
      have hl : i < η.length := by
        have := (List.getElem?_eq_some_iff.mp e).1
        simpa using this
      rw [List.getElem?_set_self hl] at e
      cases e
      exact ⟨z, List.getElem?_set_self (by rw [S.len]; exact hl), r⟩
    · rw [List.getElem?_set_ne hj] at e
      obtain ⟨z', e1, r'⟩ := S.val j y e
      exact ⟨z', by rw [List.getElem?_set_ne hj]; exact e1, r'⟩
  · by_cases hj : i = j
    · subst hj
      have hl : i < η.length := by
        have := (List.getElem?_eq_some_iff.mp e).1
        simpa using this
      rw [List.getElem?_set_self hl] at e
      cases e
    · rw [List.getElem?_set_ne hj] at e
      obtain ⟨a, e1, r'⟩ := S.own j y e
      exact ⟨a, by rw [List.getElem?_set_ne hj]; exact e1, r'⟩
  · have ne : ∀ {l : Nat} {y : Val}, (η.set i (.v x))[l]? = some (.o y) → i ≠ l := fun {l y} e hl => by
      subst hl
      have hl : i < η.length := by
        have := (List.getElem?_eq_some_iff.mp e).1
        simpa using this
      rw [List.getElem?_set_self hl] at e
      cases e
    have n1 := ne e1
    have n2 := ne e2
    rw [List.getElem?_set_ne n1] at e1 e3
    rw [List.getElem?_set_ne n2] at e2 e4
    exact S.inj j k y w a e1 e2 e3 e4
theorem St.forget {i : Nat} {z : Option V} (S : St K H0 ρ0 B O ρ η h σ H) : St K H0 ρ0 B O ρ (η.set i .e) h (σ.set i z) H := by
  have ne : ∀ {l : Nat} {y : Sl}, y ≠ .e → (η.set i .e)[l]? = some y → i ≠ l := fun {l y} hy e hl => by
    subst hl
    have hl : i < η.length := by
      have := (List.getElem?_eq_some_iff.mp e).1
      simpa using this
    rw [List.getElem?_set_self hl] at e
    cases e
    exact hy rfl
  refine ⟨by rw [List.length_set, List.length_set, S.len], fun j y e => ?_, fun j y e => ?_, fun j k y w a e1 e2 e3 e4 => ?_, S.sep, S.liv, S.bar, S.mh, S.pre, S.new, S.keep, S.ali⟩
  · have n := ne (by simp) e
    rw [List.getElem?_set_ne n] at e ⊢
    exact S.val j y e
  · have n := ne (by simp) e
    rw [List.getElem?_set_ne n] at e ⊢
    exact S.own j y e
  · have n1 := ne (by simp) e1
    have n2 := ne (by simp) e2
    rw [List.getElem?_set_ne n1] at e1 e3
    rw [List.getElem?_set_ne n2] at e2 e4
    exact S.inj j k y w a e1 e2 e3 e4
theorem St.drop {i : Nat} (S : St K H0 ρ0 B O ρ η h σ H) : St K H0 ρ0 B O ρ (η.set i .e) h σ H := by
  have ne : ∀ {l : Nat} {y : Sl}, y ≠ .e → (η.set i .e)[l]? = some y → i ≠ l := fun {l y} hy e hl => by
    subst hl
    have hl : i < η.length := by
      have := (List.getElem?_eq_some_iff.mp e).1
      simpa using this
    rw [List.getElem?_set_self hl] at e
    cases e
    exact hy rfl
  refine ⟨by rw [List.length_set, S.len], fun j y e => ?_, fun j y e => ?_, fun j k y w a e1 e2 e3 e4 => ?_, S.sep, S.liv, S.bar, S.mh, S.pre, S.new, S.keep, S.ali⟩
  · rw [List.getElem?_set_ne (ne (by simp) e)] at e
    exact S.val j y e
  · rw [List.getElem?_set_ne (ne (by simp) e)] at e
    exact S.own j y e
  · rw [List.getElem?_set_ne (ne (by simp) e1)] at e1
    rw [List.getElem?_set_ne (ne (by simp) e2)] at e2
    exact S.inj j k y w a e1 e2 e3 e4
theorem St.wiped (S : St K H0 ρ0 B O ρ η h σ H) : ∀ vs : List Nat, St K H0 ρ0 B O ρ (wipe η vs) h (L2.wipe σ vs) H
  | [] => S
  | i :: is => (S.wiped is).forget
theorem St.kills (S : St K H0 ρ0 B O ρ η h σ H) : ∀ vs : List Nat, St K H0 ρ0 B O ρ (wipe η vs) h σ H
  | [] => S
  | i :: is => (S.kills is).drop
theorem wipe_set {i : Nat} {x : Option V} : ∀ {vs : List Nat} {σ : L2.St}, i ∈ vs → L2.wipe (σ.set i x) vs = L2.wipe σ vs
  | [], _, h => by simp at h
  | v :: vs, σ, h => by
    show (L2.wipe (σ.set i x) vs).set v none = (L2.wipe σ vs).set v none
    by_cases hv : i = v
    · subst hv
      have key : ∀ (vs : List Nat) (σ : L2.St), (L2.wipe (σ.set i x) vs).set i none = (L2.wipe σ vs).set i none := by
        intro vs
        induction vs with
        | nil => intro σ; show (σ.set i x).set i none = σ.set i none; rw [List.set_set]
        | cons w ws ih =>
          intro σ
          show ((L2.wipe (σ.set i x) ws).set w none).set i none = ((L2.wipe σ ws).set w none).set i none
          by_cases hw : w = i
          · subst hw
            rw [List.set_set, List.set_set]; exact ih σ
          · rw [List.set_comm _ _ hw, ih σ, List.set_comm _ _ hw]
      exact key vs σ
    · rw [wipe_set ((List.mem_cons.mp h).resolve_left hv)]
theorem wipe_wipe : ∀ (vs : List Nat) (σ : L2.St), L2.wipe (L2.wipe σ vs) vs = L2.wipe σ vs := by
  have key : ∀ (us vs : List Nat) (σ : L2.St), (∀ u ∈ us, u ∈ vs) → L2.wipe (L2.wipe σ us) vs = L2.wipe σ vs := by
    intro us
    induction us with
    | nil => intro vs σ _; rfl
    | cons u us ih =>
      intro vs σ h
      show L2.wipe ((L2.wipe σ us).set u none) vs = _
      rw [wipe_set (h u List.mem_cons_self), ih vs σ fun w hw => h w (List.mem_cons_of_mem _ hw)]
  exact fun vs σ => key vs vs σ fun _ h => h
theorem setAll_ok {Q : L2.St → Hp → Prop} : ∀ {is : List Nat} {Vs : List V} {vs : List Val} {η η' : Env} {σ : L2.St}, St K H0 ρ0 B O ρ η h σ H → RepL K (off H (O ++ ρ)) ρ Vs vs → setAll η is vs = some η' →
    (∀ σ', St K H0 ρ0 B O ρ η' h σ' H → (∀ ws : List Nat, (∀ i ∈ is, i ∈ ws) → L2.wipe σ' ws = L2.wipe σ ws) → Q σ' H) → gNs is Vs σ H Q
  | [], _, _, η, η', σ, S, .nil, e, k => by
    simp only [setAll, Option.some.injEq] at e
    subst e
    exact ⟨rfl, k σ S fun _ _ => rfl⟩
  | [], _, _, η, η', σ, S, .cons _ _, e, k => by simp [setAll] at e
  | i :: is, _, _, η, η', σ, S, .nil, e, k => by simp [setAll] at e
  | i :: is, _, _, η, η', σ, S, .cons (z := z) (v := v) r t, e, k => by
    simp only [setAll] at e
    split at e
    · refine ⟨z, _, rfl, ?_⟩
      refine setAll_ok (S.set r) t e fun σ' S' hw => k σ' S' fun ws hws => ?_
      rw [hw ws fun j hj => hws j (List.mem_cons_of_mem _ hj), wipe_set (hws i List.mem_cons_self)]
    · cases e
theorem gNs_len : ∀ {is : List Nat} {vs : List Val} {η η' : Env}, setAll η is vs = some η' → is.length = vs.length
  | [], [], _, _, _ => rfl
  | [], _ :: _, _, _, e => by simp [setAll] at e
  | _ :: _, [], _, _, e => by simp [setAll] at e
  | i :: is, v :: vs, η, η', e => by
    simp only [setAll] at e
    split at e
    · rw [List.length_cons, List.length_cons, gNs_len e]
    · cases e
theorem gT_ok {Kf : PySem.W.Frag} (hK : K.k = Kf) {tg : Tg} {x : Val} {z : V} {Q : L2.St → Hp → Prop} (S : St K H0 ρ0 B O ρ η h σ H) (r : Rep K (off H (O ++ ρ)) ρ z x) (e : bindT η tg x = some η')
    (k : ∀ σ', St K H0 ρ0 B O ρ η' h σ' H → (∀ ws : List Nat, (∀ i ∈ tgIx tg, i ∈ ws) → L2.wipe σ' ws = L2.wipe σ ws) → Q σ' H) : gT Kf tg z σ H Q := by
  cases tg with
  | name i =>
    simp only [bindT] at e
    split at e
    · injection e with e; subst e
      exact k _ (S.set r) fun ws hws => wipe_set (hws i (by simp [tgIx]))
    · cases e
  | tup is =>
    cases x with
    | tup vs =>
      simp only [bindT] at e
      obtain ⟨a, Vs, rfl, t1, t2, _⟩ := (RepB.of (b := true) r).tup_
      rw [hK] at t1
      exact ⟨a, Vs, rfl, t1, by rw [t2.length, gNs_len e], setAll_ok S t2 e k⟩
    | _ => simp [bindT] at e
end
end MP
set_option maxHeartbeats 4000000
set_option autoImplicit false
namespace MP
open PySem PySem.Spec PyProof.Rows L2
def iSq (K : PySem.W.Frag) (tl : TE) : TI := fun σ H R => tl σ H fun x H1 => (∃ a xs, x = .ref a ∧ ((SqL K H1 a xs ∧ (xs.length ≤ sizeLine → R (Itl K a) H1)) ∨ (SqT K H1 a xs ∧ (xs.length ≤ sizeLine → R (Itt K a) H1)))) ∨ ∃ y, x = .str y ∧ R (Its y) H1
theorem pi_sq {X : Cx} {tg l : Expr} {tl : TE} (hl : PE X l tl) : PI X tg l (iSq X.K tl) := by
  refine ⟨fun pins s σ H R I h => ?_⟩
  refine thn (hl.run pins s σ H _ I h) fun v s1 ⟨x, H1, I1, r1, q1⟩ => ?_
  rcases q1 with ⟨a, xs, e, q⟩ | ⟨y, e, q⟩
  · subst e
    cases r1
    rcases q with ⟨hq, q⟩ | ⟨hq, q⟩
    · obtain ⟨its, rv, p, hz⟩ := I1.list hq
      refine wpAny_pyIter_list p.isList ?_
      refine ⟨s1.heap.objs.size, [s1.heap.objs.size], _, _, H1, rfl, I1.kept (t' := s1.toks) fun b o e => Heap.get?_push_of_some _ e, turn_list a _, ⟨_, Heap.get?_push_size _ rfl, rfl, rfl⟩, fun b hb => ?_, q hz⟩
      have e : b = s1.heap.objs.size := by simpa using hb
      subst e
      exact I1.fpOk (Nat.le_refl _) (I1.hok.fresh (Nat.le_refl _))
    · obtain ⟨its, rv, p, hz⟩ := I1.tuple hq
      refine wpAny_pyIter_tuple (show s1.heap.IsTuple a its.toArray from p) ?_
      refine ⟨s1.heap.objs.size, [s1.heap.objs.size], _, _, H1, rfl, I1.kept (t' := s1.toks) fun b o e => Heap.get?_push_of_some _ e, turn_tuple a _, ⟨_, Heap.get?_push_size _ rfl, rfl, rfl⟩, fun b hb => ?_, q hz⟩
      have e : b = s1.heap.objs.size := by simpa using hb
      subst e
      exact I1.fpOk (Nat.le_refl _) (I1.hok.fresh (Nat.le_refl _))
  · subst e
    obtain ⟨t, rfl⟩ := r1
    cases ha : y.cps.all (· < 128)
    · exact wpAny_pyIter_wide ha (pi_one (tk := s1.toks) I1 _ (turn_str _ y t "str_iterator" (.inr rfl)) ⟨_, Heap.get?_push_size _ rfl, rfl, rfl⟩ q)
    · exact wpAny_pyIter_ascii ha (pi_one (tk := s1.toks) I1 _ (turn_str _ y t "str_ascii_iterator" (.inl rfl)) ⟨_, Heap.get?_push_size _ rfl, rfl, rfl⟩ q)
section
variable (K : KC)
def Step (J : L2.It) (xs : List Val) (H : Hp) (M ρ : List Addr) : Prop := ∀ i, (xs.length ≤ i → J.stop i H) ∧ ∀ x, xs[i]? = some x → J.go i H ∧ ∀ z H', J.yld i H z H' → Same H H' ∧ Rep K (off H' M) ρ z x
def On (b : Bool) (H1 : Hp) (O ρ1 : List Addr) (H : Hp) (M ρ : List Addr) : Prop := Ext H1 (O ++ ρ1) H M ∧ ρ1 <+: ρ ∧ (b = true → ∀ a o, a ∈ O → H1 a = some o → H a = some o) ∧ ∀ a, a ∈ M → ∃ o, H a = some o
def Walk (b : Bool) (H1 : Hp) (O ρ1 : List Addr) (J : L2.It) (xs : List Val) : Prop := ∀ H M ρ, On b H1 O ρ1 H M ρ → Step K J xs H M ρ
end
section
variable {K : KC} {H1 H : Hp} {O ρ1 ρ M : List Addr} {b : Bool}
theorem RepB.on (o : On b H1 O ρ1 H M ρ) {z : V} {v : Val} (r : RepB K H1 O ρ1 b z v) : RepR K H M ρ z v := by
  obtain ⟨e, p, k, _⟩ := o
  rcases r with r | ⟨hb, a, ez, ho, _, w⟩
  · exact .inl (r.ext e p)
  · exact .inr ⟨a, ez, w.to e p fun o q => k hb a o ho q⟩
theorem step_list {a : Addr} {vs : List Val} (r : RepR K H M ρ (.ref a) (.lst vs)) : Step K (Itl K.k a) vs H M ρ := by
  obtain ⟨a', Vs, e, h1, h2⟩ := r.lst_
  cases e
  refine fun i => ⟨fun hi => ⟨Vs, h1, by rw [h2.length]; exact hi⟩, fun x hx => ?_⟩
  obtain ⟨z, hz, rz⟩ := h2.get hx
  refine ⟨⟨Vs, z, h1, hz⟩, fun y H' q => ?_⟩
  obtain ⟨rfl, q⟩ := q
  have := q Vs h1
  rw [hz] at this; cases this
  exact ⟨Same.refl _, rz⟩
theorem step_tup {a : Addr} {vs : List Val} (r : RepR K H M ρ (.ref a) (.tup vs)) : Step K (Itt K.k a) vs H M ρ := by
  obtain ⟨a', Vs, e, h1, h2, _⟩ := r.tup_
  cases e
  refine fun i => ⟨fun hi => ⟨Vs, h1, by rw [h2.length]; exact hi⟩, fun x hx => ?_⟩
  obtain ⟨z, hz, rz⟩ := h2.get hx
  refine ⟨⟨Vs, z, h1, hz⟩, fun y H' q => ?_⟩
  obtain ⟨rfl, q⟩ := q
  have := q Vs h1
  rw [hz] at this; cases this
  exact ⟨Same.refl _, rz⟩
theorem rngL_get {lo : Int} {n i : Nat} {x : Val} (h : (rngL lo n)[i]? = some x) : i < n ∧ x = .int (lo + i) := by
  unfold rngL at h
  rw [List.getElem?_map] at h
  cases q : (List.range n)[i]? with
  | none => rw [q] at h; cases h
  | some j =>
    rw [q] at h
    obtain ⟨h1, h2⟩ := List.getElem?_eq_some_iff.mp q
    simp at h1 h2 h
    subst h2
    exact ⟨h1, h.symm⟩
theorem rngL_len (lo : Int) (n : Nat) : (rngL lo n).length = n := by simp [rngL]
theorem step_rng (lo : Int) (n : Nat) : Step K (Itr lo n) (rngL lo n) H M ρ := by
  refine fun i => ⟨fun hi => by rw [rngL_len] at hi; exact hi, fun x hx => ?_⟩
  obtain ⟨h1, rfl⟩ := rngL_get hx
  refine ⟨h1, fun z H' q => ?_⟩
  obtain ⟨rfl, rfl⟩ := q
  exact ⟨Same.refl _, .int _⟩
theorem step_text {x : Tx} (ok : okT x) : Step K (Its (tx x)) (x.map fun c => .str [c]) H M ρ := by
  have sz : (tx x).cps.size = x.length := tx_len x
  refine fun i => ⟨fun hi => ?_, fun v hv => ?_⟩
  · rw [List.length_map] at hi
    show (tx x).cps.size ≤ i
    rw [sz]; exact hi
  · rw [List.getElem?_map] at hv
    obtain ⟨c, hc, rfl⟩ := Option.map_eq_some_iff.mp hv
    have hi := (List.getElem?_eq_some_iff.mp hc).1
    refine ⟨by show i < (tx x).cps.size; rw [sz]; exact hi, fun z H' q => ?_⟩
    obtain ⟨rfl, d, hd, rfl⟩ := q
    have e : (tx x).cps[i]? = x[i]? := by
      show x.toArray[i]? = x[i]?
      simp
    rw [e, hc] at hd
    cases hd
    refine ⟨Same.refl _, ?_⟩
    have : Rep K (off H' M) ρ (.str (tx [c])) (.str [c]) := .str [c] fun d hd => by
      rw [List.mem_singleton] at hd
      subst hd
      exact ok _ (List.mem_of_getElem? hc)
    exact this
theorem enumL_get : ∀ {xs : List Val} {k i : Nat} {x : Val}, (enumL k xs)[i]? = some x → ∃ y, xs[i]? = some y ∧ x = .tup [.int ((k + i : Nat) : Int), y]
  | [], k, i, x, h => by simp [enumL] at h
  | y :: ys, k, 0, x, h => by
    simp [enumL] at h
    exact ⟨y, rfl, h.symm⟩
  | y :: ys, k, i + 1, x, h => by
    simp only [enumL, List.getElem?_cons_succ] at h
    obtain ⟨w, h1, h2⟩ := enumL_get h
    exact ⟨w, by simpa using h1, by rw [h2, Nat.add_assoc, Nat.add_comm 1 i]⟩
theorem enumL_len : ∀ (k : Nat) (xs : List Val), (enumL k xs).length = xs.length
  | _, [] => rfl
  | k, x :: xs => by simp [enumL, enumL_len (k + 1) xs]
theorem new_tup {T : Addr} {Vs : List V} {vs : List Val} (hT : H T = none) (al : ∀ a, a ∈ M → ∃ o, H a = some o) (r : RepL K (off H M) ρ Vs vs) : Same H (upd H T (.tup Vs)) ∧ Rep K (off (upd H T (.tup Vs)) M) ρ (.ref T) (.tup vs) := by
  have s : Same H (upd H T (.tup Vs)) := Same.new hT
  refine ⟨s, .tup (off_some.mpr ⟨fun hm => ?_, upd_same⟩) (r.ext (fun a o e => ?_) List.prefix_rfl)⟩
  · obtain ⟨o, e⟩ := al T hm
    rw [hT] at e; cases e
  · obtain ⟨n, e⟩ := off_some.mp e
    exact off_some.mpr ⟨n, s a o e⟩
theorem step_enum {a : Addr} {vs : List Val} (r : RepR K H M ρ (.ref a) (.lst vs)) (al : ∀ a, a ∈ M → ∃ o, H a = some o) : Step K (Ite K.k a) (enumL 0 vs) H M ρ := by
  obtain ⟨a', Vs, e, h1, h2⟩ := r.lst_
  cases e
  refine fun i => ⟨fun hi => ⟨Vs, h1, by rw [h2.length]; rw [enumL_len] at hi; exact hi⟩, fun x hx => ?_⟩
  obtain ⟨y, hy, rfl⟩ := enumL_get hx
  obtain ⟨z, hz, rz⟩ := h2.get hy
  refine ⟨⟨Vs, z, h1, hz⟩, fun w H' q => ?_⟩
  obtain ⟨T, x', rfl, hT, rfl, q⟩ := q
  have := q Vs h1
  rw [hz] at this; cases this
  rw [Nat.zero_add]
  exact new_tup hT al (.cons (.int _) (.cons rz .nil))
theorem step_zip {a c : Addr} {vs ws : List Val} (r : RepR K H M ρ (.ref a) (.lst vs)) (r' : RepR K H M ρ (.ref c) (.lst ws)) (al : ∀ a, a ∈ M → ∃ o, H a = some o) : Step K (Itz K.k a c) (List.zipWith (fun x y => .tup [x, y]) vs ws) H M ρ := by
  obtain ⟨a', Vs, e, h1, h2⟩ := r.lst_
  cases e
  obtain ⟨c', Ws, e, g1, g2⟩ := r'.lst_
  cases e
  refine fun i => ⟨fun hi => ⟨Vs, Ws, h1, g1, ?_⟩, fun x hx => ?_⟩
  · rw [h2.length, g2.length]
    rw [List.length_zipWith] at hi
    omega
  · obtain ⟨hi, e⟩ := List.getElem?_eq_some_iff.mp hx
    rw [List.length_zipWith] at hi
    rw [List.getElem_zipWith] at e
    subst e
    obtain ⟨z, hz, rz⟩ := h2.get (i := i) (v := vs[i]'(by omega)) (by simp)
    obtain ⟨y, hy, ry⟩ := g2.get (i := i) (v := ws[i]'(by omega)) (by simp)
    refine ⟨⟨Vs, Ws, z, y, h1, g1, hz, hy⟩, fun w H' q => ?_⟩
    obtain ⟨T, x', y', rfl, hT, rfl, q1, q2⟩ := q
    have e1 := q1 Vs h1
    rw [hz] at e1; cases e1
    have e2 := q2 Ws g1
    rw [hy] at e2; cases e2
    exact new_tup hT al (.cons rz (.cons ry .nil))
end
section
variable {X : Cx} {ck : List (List Ky)} {W : WX} {T : Nat → Fn} {b : Bool} {tg : Expr}
def tIt (K : KC) (W : WX) (T : Nat → Fn) (b : Bool) (it : MP.It) : TI := fun σ H R => ∃ H0 ρ0 B O ρ η h, St K H0 ρ0 B O ρ η h σ H ∧ Pst K W σ O ρ H (fun H' ρ' J xs => Walk K b H' O ρ' J xs ∧ xs.length ≤ sz) R (evIt T b it η h)
theorem PI.imp {it : Expr} {t t' : TI} (h : PI X tg it t) (k : ∀ (pins : List (Addr × Obj)) (s : Shared) (σ : L2.St) (H : Hp) (R : L2.It → Hp → Prop), L2.Inv X pins σ H s → t' σ H R → t σ H R) : PI X tg it t' :=
  ⟨fun pins s σ H R I q => h.run pins s σ H R I (k pins s σ H R I q)⟩
theorem i_seq {e : E} {ee : Expr} (he : PE X ee (tE (kc X ck) W T b e)) : PI X tg ee (tIt (kc X ck) W T b (.seq e)) := by
  refine PI.imp (pi_sq he) fun pins s σ H R I ⟨H0, ρ0, B, O, ρ, η, h, S, p⟩ => ?_
  refine ⟨H0, ρ0, B, O, ρ, η, h, S, p.bind fun z v ρ1 H1 h1 g m r p1 => ?_⟩
  cases v with
  | tup l =>
    obtain ⟨a, Vs, rfl, t1, t2, _⟩ := r.tup_
    refine .inl ⟨a, Vs, rfl, .inr ⟨t1, fun hz => Pst.ok p1 m ⟨fun H' M' ρ' o => step_tup (r.on o), ?_⟩⟩⟩
    rw [sz_line, ← t2.length]; exact hz
  | lst l =>
    obtain ⟨a, Vs, rfl, t1, t2⟩ := r.lst_
    refine .inl ⟨a, Vs, rfl, .inl ⟨t1, fun hz => Pst.ok p1 m ⟨fun H' M' ρ' o => step_list (r.on o), ?_⟩⟩⟩
    rw [sz_line, ← t2.length]; exact hz
  | str x =>
    obtain ⟨rfl, ok⟩ := r.str_
    have p2 : Pst (kc X ck) W σ O ρ1 H1 _ R (if x.length ≤ sz then Res.ok (x.map fun c => Val.str [c]) h1 else .bad) := p1
    split at p2
    · rename_i hz
      exact .inr ⟨tx x, rfl, Pst.ok p2 m ⟨fun H' M' ρ' o => step_text ok, by rw [List.length_map]; exact hz⟩⟩
    · exact p2.elim
  | _ => exact p1.elim
theorem i_text {e : E} {ee : Expr} (he : PE X ee (tE (kc X ck) W T b e)) : PI X tg ee (tIt (kc X ck) W T b (.text e)) := by
  refine PI.imp (pi_str he) fun pins s σ H R I ⟨H0, ρ0, B, O, ρ, η, h, S, p⟩ => ?_
  refine ⟨H0, ρ0, B, O, ρ, η, h, S, p.bind fun z v ρ1 H1 h1 g m r p1 => ?_⟩
  cases v with
  | str x =>
    obtain ⟨rfl, ok⟩ := r.str_
    have p2 : Pst (kc X ck) W σ O ρ1 H1 _ R (if x.length ≤ sz then Res.ok (x.map fun c => Val.str [c]) h1 else .bad) := p1
    split at p2
    · rename_i hz
      exact ⟨tx x, rfl, Pst.ok p2 m ⟨fun H' M' ρ' o => step_text ok, by rw [List.length_map]; exact hz⟩⟩
    · exact p2.elim
  | _ => exact p1.elim
theorem i_rng1 {e : E} {ee : Expr} {p0 pos : Pos} (hg : Gl X "range") (hm : X.mg "range" = none) (he : PE X ee (tE (kc X ck) W T true e)) (hs : starEach [ee] X.env = [(false, eval ee X.env)]) : PI X tg (.Call (.Name "range" p0) [ee] [] pos) (tIt (kc X ck) W T b (.rng1 e)) := by
  refine PI.imp (pi_range1 hg hm (pa_cons he pa_nil hs) hs) fun pins s σ H R I ⟨H0, ρ0, B, O, ρ, η, h, S, p⟩ => ?_
  refine ⟨H0, ρ0, B, O, ρ, η, h, S, p.bind fun z v ρ1 H1 h1 g m r p1 => ?_⟩
  cases v with
  | int j =>
    obtain rfl := r.int_
    have p2 : Pst (kc X ck) W σ O ρ1 H1 _ R (if (rgOk 0 j && decide (j.toNat ≤ sz)) = true then Res.ok (rngL 0 j.toNat) h1 else .bad) := p1
    split at p2
    · rename_i hz
      rw [Bool.and_eq_true, decide_eq_true_eq] at hz
      obtain ⟨hr, hz⟩ := hz
      simp only [rgOk, Bool.and_eq_true, decide_eq_true_eq] at hr
      exact ⟨j, rfl, hr.1.2, hr.2, Pst.ok p2 m ⟨fun H' M' ρ' o => step_rng 0 _, by rw [rngL_len]; exact hz⟩⟩
    · exact p2.elim
  | _ => exact p1.elim
theorem i_rng2 {e e' : E} {ee ee' : Expr} {p0 pos : Pos} (hg : Gl X "range") (hm : X.mg "range" = none) (he : PE X ee (tE (kc X ck) W T true e)) (he' : PE X ee' (tE (kc X ck) W T true e')) (hs : starEach [ee, ee'] X.env = [(false, eval ee X.env), (false, eval ee' X.env)]) (hs2 : starEach [ee'] X.env = [(false, eval ee' X.env)]) :
    PI X tg (.Call (.Name "range" p0) [ee, ee'] [] pos) (tIt (kc X ck) W T b (.rng2 e e')) := by
  refine PI.imp (pi_range2 hg hm (pa_cons he (pa_cons he' pa_nil hs2) (by rw [hs, hs2])) hs hs2) fun pins s σ H R I ⟨H0, ρ0, B, O, ρ, η, h, S, p⟩ => ?_
  refine twoG S p fun x y v w ρ2 H2 h2 S2 rx ry p2 => ?_
  cases v with
  | int i => cases w with
    | int j =>
      obtain rfl := rx.int_
      obtain rfl := ry.int_
      have p3 : Pst (kc X ck) W σ O ρ2 H2 _ R (if (rgOk i j && decide ((j - i).toNat ≤ sz)) = true then Res.ok (rngL i (j - i).toNat) h2 else .bad) := p2
      split at p3
      · rename_i hz
        rw [Bool.and_eq_true, decide_eq_true_eq] at hz
        obtain ⟨hr, hz⟩ := hz
        simp only [rgOk, Bool.and_eq_true, decide_eq_true_eq] at hr
        exact ⟨i, j, rfl, ⟨hr.1.1.1, hr.1.1.2, hr.1.2, hr.2⟩, Pst.ok p3 S2.mh ⟨fun H' M' ρ' o => step_rng i _, by rw [rngL_len]; exact hz⟩⟩
      · exact p3.elim
    | _ => exact p2.elim
  | _ => cases w <;> exact p2.elim
theorem i_enum {e : E} {ee : Expr} {elts : List Expr} {kk : Nat} {tpos p0 pos : Pos} (hg : Gl X "enumerate") (hm : X.mg "enumerate" = none) (he : PE X ee (tE (kc X ck) W T b e)) (hs : starEach [ee] X.env = [(false, eval ee X.env)]) : PI X (.Tuple elts kk tpos) (.Call (.Name "enumerate" p0) [ee] [] pos) (tIt (kc X ck) W T b (.enum e)) := by
  refine PI.imp (pi_enum hg hm (pa_cons he pa_nil hs) hs) fun pins s σ H R I ⟨H0, ρ0, B, O, ρ, η, h, S, p⟩ => ?_
  refine ⟨H0, ρ0, B, O, ρ, η, h, S, p.bind fun z v ρ1 H1 h1 g m r p1 => ?_⟩
  cases v with
  | lst l =>
    obtain ⟨a, Vs, rfl, t1, t2⟩ := r.lst_
    have p2 : Pst (kc X ck) W σ O ρ1 H1 _ R (if l.length ≤ sz then Res.ok (enumL 0 l) h1 else .bad) := p1
    split at p2
    · rename_i hz
      exact ⟨a, Vs, rfl, t1, Pst.ok p2 m ⟨fun H' M' ρ' o => step_enum (r.on o) o.2.2.2, by rw [enumL_len]; exact hz⟩⟩
    · exact p2.elim
  | _ => exact p1.elim
theorem i_zip2 {e e' : E} {ee ee' : Expr} {elts : List Expr} {kk : Nat} {tpos p0 pos : Pos} (hg : Gl X "zip") (hm : X.mg "zip" = none) (he : PE X ee (tE (kc X ck) W T b e)) (he' : PE X ee' (tE (kc X ck) W T b e')) (hs : starEach [ee, ee'] X.env = (false, eval ee X.env) :: starEach [ee'] X.env) (hs2 : starEach [ee'] X.env = [(false, eval ee' X.env)]) :
    PI X (.Tuple elts kk tpos) (.Call (.Name "zip" p0) [ee, ee'] [] pos) (tIt (kc X ck) W T b (.zip2 e e')) := by
  refine PI.imp (pi_zip hg hm (pa_cons he (pa_cons he' pa_nil hs2) hs) hs (by rw [hs2]; rfl)) fun pins s σ H R I ⟨H0, ρ0, B, O, ρ, η, h, S, p⟩ => ?_
  refine ⟨H0, ρ0, B, O, ρ, η, h, S, p.bind fun z v ρ1 H1 h1 g m r p1 => ?_⟩
  refine ⟨H0, ρ0, B, O, ρ1, η, h1, S.grow g m, p1.bind fun y w ρ2 H2 h2 g2 m2 r2 p2 => ?_⟩
  cases v with
  | lst l => cases w with
    | lst l' =>
      have rg := r.grow g2
      obtain ⟨a, Vs, rfl, t1, t2⟩ := rg.lst_
      obtain ⟨c, Ws, rfl, u1, u2⟩ := r2.lst_
      have p3 : Pst (kc X ck) W σ O ρ2 H2 _ R (if l.length ≤ sz then Res.ok (List.zipWith (fun x y => Val.tup [x, y]) l l') h2 else .bad) := p2
      split at p3
      · rename_i hz
        refine ⟨a, c, Vs, Ws, rfl, t1, u1, Pst.ok p3 m2 ⟨fun H' M' ρ' o => step_zip (rg.on o) (r2.on o) o.2.2.2, ?_⟩⟩
        rw [List.length_zipWith]; omega
      · exact p3.elim
    | _ => exact p2.elim
  | _ => cases w <;> exact p2.elim
end
end MP
set_option maxHeartbeats 4000000
set_option autoImplicit false
namespace MP
open PySem PySem.Spec PyProof.Rows L2
section
variable {K : KC} {H0 H H' : Hp} {ρ0 B O ρ : List Addr} {η : Env} {h : MH} {σ : L2.St}
theorem St.bar1 {p : Addr} {o : HO} (S : St K H0 ρ0 B O ρ η h σ H) (hp : H p = none) : St K H0 ρ0 B (p :: O) ρ η h σ (upd H p o) := by
  have e : Ext H (O ++ ρ) (upd H p o) ((p :: O) ++ ρ) := fun a q eq => by
    obtain ⟨n, eq⟩ := off_some.mp eq
    have ne : a ≠ p := ne_of_none eq hp
    refine off_some.mpr ⟨?_, by rw [upd_ne ne]; exact eq⟩
    rw [List.cons_append, List.mem_cons, not_or]
    exact ⟨ne, n⟩
  have hpO : p ∉ O := fun q => by obtain ⟨o', e'⟩ := S.liv p q; rw [hp] at e'; cases e'
  have hpρ : p ∉ ρ := fun q => by obtain ⟨o', e'⟩ := S.alive p (List.mem_append_right _ q); rw [hp] at e'; cases e'
  have hp0 : H0 p = none := by
    cases q : H0 p with
    | none => rfl
    | some u => obtain ⟨o', e'⟩ := S.ali p u q; rw [hp] at e'; cases e'
  refine ⟨S.len, fun i x e1 => ?_, fun i x e1 => ?_, S.inj, fun a ha => ?_, fun a ha => ?_, fun a ha => List.mem_cons_of_mem _ (S.bar a ha), ⟨S.mh.len, S.mh.nd, fun k w a e1 e2 => (S.mh.at_ k w a e1 e2).to e List.prefix_rfl fun q hq => Same.new hp a q hq⟩, S.pre, S.new, fun a q e1 e2 => Same.new hp a q (S.keep a q e1 e2), fun a q e1 => ?_⟩
  · obtain ⟨z, e2, r⟩ := S.val i x e1
    exact ⟨z, e2, r.ext e List.prefix_rfl⟩
  · obtain ⟨a, e2, ho, hb, h0, w⟩ := S.own i x e1
    exact ⟨a, e2, List.mem_cons_of_mem _ ho, hb, h0, w.to e List.prefix_rfl fun q hq => Same.new hp a q hq⟩
  · rcases List.mem_cons.mp ha with rfl | ha
    · exact hpρ
    · exact S.sep a ha
  · rcases List.mem_cons.mp ha with rfl | ha
    · exact ⟨o, upd_same⟩
    · obtain ⟨o', e'⟩ := S.liv a ha
      exact ⟨o', Same.new hp a o' e'⟩
  · obtain ⟨o', e'⟩ := S.ali a q e1
    exact ⟨o', Same.new hp a o' e'⟩
theorem St.poke {p : Addr} {o : HO} (S : St K H0 ρ0 B O ρ η h σ H) (hp : p ∈ O) (hn : ∀ (i : Nat) (x : Val), η[i]? = some (Sl.o x) → σ[i]? ≠ some (some (V.ref p))) (h0 : H0 p = none) : St K H0 ρ0 B O ρ η h σ (upd H p o) := by
  have e : Ext H (O ++ ρ) (upd H p o) (O ++ ρ) := fun a q eq => by
    obtain ⟨n, eq⟩ := off_some.mp eq
    refine off_some.mpr ⟨n, by rw [upd_ne]; exact eq; rintro rfl; exact n (List.mem_append_left _ hp)⟩
  have hpρ := S.sep p hp
  refine ⟨S.len, fun i x e1 => ?_, fun i x e1 => ?_, S.inj, S.sep, fun a ha => ?_, S.bar, ⟨S.mh.len, S.mh.nd, fun k w a e1 e2 => (S.mh.at_ k w a e1 e2).to e List.prefix_rfl fun q hq => ?_⟩, S.pre, S.new, fun a q e1 e2 => ?_, fun a q e1 => ?_⟩
  · obtain ⟨z, e2, r⟩ := S.val i x e1
    exact ⟨z, e2, r.ext e List.prefix_rfl⟩
  · obtain ⟨a, e2, ho, hb, h0', w⟩ := S.own i x e1
    refine ⟨a, e2, ho, hb, h0', w.to e List.prefix_rfl fun q hq => ?_⟩
    rw [upd_ne]; exact hq
    rintro rfl; exact hn i x e1 e2
  · by_cases ha' : a = p
    · subst ha'; exact ⟨o, upd_same⟩
    · rw [upd_ne ha']; exact S.liv a ha
  · rw [upd_ne]; exact hq
    rintro rfl; exact hpρ (List.mem_of_getElem? e2)
  · rw [upd_ne]; exact S.keep a q e1 e2
    rintro rfl; rw [h0] at e1; cases e1
  · by_cases ha' : a = p
    · subst ha'; exact ⟨o, upd_same⟩
    · rw [upd_ne ha']; exact S.ali a q e1
end
section
variable {X : Cx} {ck : List (List Ky)} {W : WX} {T : Nat → Fn} {b : Bool}
def tCd (K : KC) (W : WX) (T : Nat → Fn) : Op → TT
  | .no => tYes
  | .yes e => tT K W T true e
def turnLc (T : Nat → Fn) (own : List Nat) (tg : Tg) (cond : Op) (elt : E) (η : Env) : Val → MH → Res (Option Val) := fun x h => (opt (bindT (wipe η own) tg x) h).bind fun η' h => (evC T cond η' h).noexc.bind fun c h =>
      if c then (evE T false elt η' h).noexc.bind fun v h => .ok (some v) h else .ok none h
theorem turn_cases {own : List Nat} {tg : Tg} {cond : Op} {elt : E} {η : Env} {x : Val} {h : MH} {α : Type} {f : Option Val → MH → Res α} {r : Res α} (e : (turnLc T own tg cond elt η x h).bind f = r) (hr : r ≠ .bad) :
    ∃ η' c h1, bindT (wipe η own) tg x = some η' ∧ evC T cond η' h = .ok c h1 ∧ ((c = false ∧ f none h1 = r) ∨ (c = true ∧ ∃ v h2, evE T false elt η' h1 = .ok v h2 ∧ f (some v) h2 = r)) := by
  unfold turnLc at e
  cases e1 : bindT (wipe η own) tg x with
  | none => rw [e1] at e; exact absurd e.symm hr
  | some η' =>
    rw [e1] at e
    have e' : ((evC T cond η' h).noexc.bind fun c h => if c then (evE T false elt η' h).noexc.bind fun v h => .ok (some v) h else .ok none h).bind f = r := e
    cases e2 : evC T cond η' h with
    | exc => rw [e2] at e'; exact absurd e'.symm hr
    | bad => rw [e2] at e'; exact absurd e'.symm hr
    | ok c h1 =>
      rw [e2] at e'
      cases c with
      | false => exact ⟨η', false, h1, rfl, e2, .inl ⟨rfl, e'⟩⟩
      | true =>
        have e3 : ((evE T false elt η' h1).noexc.bind fun v h => Res.ok (some v) h).bind f = r := e'
        cases e4 : evE T false elt η' h1 with
        | exc => rw [e4] at e3; exact absurd e3.symm hr
        | bad => rw [e4] at e3; exact absurd e3.symm hr
        | ok v h2 => rw [e4] at e3; exact ⟨η', true, h1, rfl, e2, .inr ⟨rfl, v, h2, e4, e3⟩⟩
theorem Pst.notbad {K : KC} {σ : L2.St} {O ρ : List Addr} {H : Hp} {α β : Type} {Rel : Hp → List Addr → β → α → Prop} {Q : β → Hp → Prop} {r : Res α} (p : Pst K W σ O ρ H Rel Q r) : r ≠ .bad := by
  rintro rfl; exact p
theorem lc_body {own : List Nat} {tg : Tg} {cond : Op} {elt : E} {σ : L2.St} {H1 : Hp} {H0 : Hp} {ρ0 B O ρ1 : List Addr} {η : Env} {h1 : MH} {J : L2.It} {xs : List Val} {Q : VK}
    (S : St (kc X ck) H0 ρ0 B O ρ1 η h1 σ H1) (wk : Walk (kc X ck) true H1 O ρ1 J xs) (hz : xs.length ≤ sz) (hown : ∀ i ∈ tgIx tg, i ∈ own)
    (Fin : ∀ (vs : List Val) (h2 : MH) (Vs : List V) (D : Addr) (ρ : List Addr) (H : Hp), mapR (turnLc T own tg cond elt η) xs h1 = .ok vs h2 → Grow ρ1 H1 ρ H → MHR (kc X ck) H ((D :: O) ++ ρ) ρ h2 → H1 D = none → D ∉ O ++ ρ → H D = some (.lst Vs) → RepL (kc X ck) (off H ((D :: O) ++ ρ)) ρ Vs vs → Q (.ref D) H)
    (ok : ∃ vs h2, mapR (turnLc T own tg cond elt η) xs h1 = .ok vs h2) :
    ∀ D, H1 D = none → ∃ Wv : Nat → Nat → Hp → Prop, (∃ m, Wv 0 m (upd H1 D (.lst []))) ∧ ∀ i m H, Wv i m H →
      (J.stop i H ∧ Q (.ref D) H) ∨ (J.go i H ∧ ∃ Nx : Hp → Prop, (∀ H', Nx H' → ∃ m', m' < m ∧ Wv (i + 1) m' H') ∧ ∀ x H', J.yld i H x H' → gT X.K tg x (L2.wipe σ own) H' fun σ2 H2 => L2.wipe σ2 own = L2.wipe σ own ∧ tCd (kc X ck) (fun _ _ _ _ => False) T cond σ2 H2 fun b H3 =>
        if b = true then tE (kc X ck) (fun _ _ _ _ => False) T false elt σ2 H3 fun y H4 => ∃ acc, H4 D = some (.lst acc) ∧ acc.length < sizeLine ∧ Nx (upd H4 D (.lst (acc ++ [y]))) else Nx H3) := by
  intro D hD
  obtain ⟨res, hres, ok⟩ := ok
  refine ⟨fun i m H => m = xs.length - i ∧ i ≤ xs.length ∧ ∃ ρ h Vs vs, St (kc X ck) H0 ρ0 B (D :: O) ρ (wipe η own) h (L2.wipe σ own) H ∧ Grow ρ1 H1 ρ H ∧ H D = some (.lst Vs) ∧ RepL (kc X ck) (off H ((D :: O) ++ ρ)) ρ Vs vs ∧ Vs.length ≤ i ∧
    (mapR (turnLc T own tg cond elt η) (xs.drop i) h).bind (fun r h2 => .ok (vs ++ r) h2) = .ok res hres, ⟨xs.length, by simp, Nat.zero_le _, ρ1, h1, [], [], (S.wiped own).bar1 hD, Grow.same (Same.new hD), upd_same, .nil, Nat.le_refl _, ?_⟩, ?_⟩
  · rw [List.drop_zero, ok]; rfl
  · rintro i m H ⟨rfl, hi, ρ, h, Vs, vs, S2, g, hDl, rl, hl, eq⟩
    have hDO : D ∉ O := fun q => by obtain ⟨o', e'⟩ := S.liv D q; rw [hD] at e'; cases e'
    have hDρ : D ∉ ρ := S2.sep D List.mem_cons_self
    have ex : Ext H1 (O ++ ρ1) H ((D :: O) ++ ρ) := fun a o q => by
      obtain ⟨n, q⟩ := off_some.mp q
      rw [List.mem_append, not_or] at n
      refine off_some.mpr ⟨?_, g.keep a o q n.2⟩
      rw [List.cons_append, List.mem_cons, List.mem_append, not_or, not_or]
      exact ⟨ne_of_none q hD, n.1, g.old q n.2⟩
    have st := wk H ((D :: O) ++ ρ) ρ ⟨ex, g.pre, fun _ a o ha q => g.keep a o q (S.sep a ha), S2.alive⟩ i
    by_cases hlt : i < xs.length
    · have hx : xs[i]? = some xs[i] := by simp [hlt]
      obtain ⟨go, stp⟩ := st.2 _ hx
      have hdrop : xs.drop i = xs[i] :: xs.drop (i + 1) := List.drop_eq_getElem_cons hlt
      rw [hdrop] at eq
      have eq' : ((turnLc T own tg cond elt η xs[i] h).bind fun o h1 => ((mapR (turnLc T own tg cond elt η) (xs.drop (i + 1)) h1).bind fun r h2 => match o with | some v => .ok (v :: r) h2 | none => .ok r h2).bind fun r h2 => .ok (vs ++ r) h2) = .ok res hres := by
        rw [← bind_assoc]; exact eq
      obtain ⟨η', c, h2, eb, ec, rest⟩ := turn_cases eq' (by simp)
      refine .inr ⟨go, fun H' => ∃ ρ h Vs vs, St (kc X ck) H0 ρ0 B (D :: O) ρ (wipe η own) h (L2.wipe σ own) H' ∧ Grow ρ1 H1 ρ H' ∧ H' D = some (.lst Vs) ∧ RepL (kc X ck) (off H' ((D :: O) ++ ρ)) ρ Vs vs ∧ Vs.length ≤ i + 1 ∧
        (mapR (turnLc T own tg cond elt η) (xs.drop (i + 1)) h).bind (fun r h2 => .ok (vs ++ r) h2) = .ok res hres, fun H' hN => ⟨xs.length - (i + 1), by omega, rfl, hlt, hN⟩, fun z H' y => ?_⟩
      obtain ⟨sm, rz⟩ := stp z H' y
      have gz : Grow ρ H ρ H' := Grow.same sm
      have S3 : St (kc X ck) H0 ρ0 B (D :: O) ρ (wipe η own) h (L2.wipe σ own) H' := S2.grow gz (S2.mh.same sm)
      have hD' : H' D = some (.lst Vs) := sm D _ hDl
      refine gT_ok rfl S3 rz eb fun σ' S4 hw => ⟨by rw [hw own hown, wipe_wipe], ?_⟩
      have g3 : Grow ρ1 H1 ρ H' := g.trans gz
      have skip : ∀ {ρ4 : List Addr} {H4 : Hp} {h4 : MH}, Grow ρ H' ρ4 H4 → MHR (kc X ck) H4 ((D :: O) ++ ρ4) ρ4 h4 → (mapR (turnLc T own tg cond elt η) (xs.drop (i + 1)) h4).bind (fun r h2 => .ok (vs ++ r) h2) = .ok res hres →
          ∃ ρ h Vs vs, St (kc X ck) H0 ρ0 B (D :: O) ρ (wipe η own) h (L2.wipe σ own) H4 ∧ Grow ρ1 H1 ρ H4 ∧ H4 D = some (.lst Vs) ∧ RepL (kc X ck) (off H4 ((D :: O) ++ ρ)) ρ Vs vs ∧ Vs.length ≤ i + 1 ∧
            (mapR (turnLc T own tg cond elt η) (xs.drop (i + 1)) h).bind (fun r h2 => .ok (vs ++ r) h2) = .ok res hres := fun {ρ4 H4 h4} g4 m4 eq4 =>
        ⟨ρ4, h4, Vs, vs, S3.grow g4 m4, g3.trans g4, g4.keep D _ hD' hDρ, (rl.ext (Grow.ext gz) List.prefix_rfl).ext g4.ext g4.pre, by omega, eq4⟩
      have more : ∀ {ρ4 : List Addr} {H4 : Hp} {h4 : MH} {v : Val} {y : V}, Grow ρ H' ρ4 H4 → MHR (kc X ck) H4 ((D :: O) ++ ρ4) ρ4 h4 → Rep (kc X ck) (off H4 ((D :: O) ++ ρ4)) ρ4 y v →
          ((mapR (turnLc T own tg cond elt η) (xs.drop (i + 1)) h4).bind fun r h2 => .ok (v :: r) h2).bind (fun r h2 => .ok (vs ++ r) h2) = .ok res hres →
          ∃ acc, H4 D = some (.lst acc) ∧ acc.length < sizeLine ∧ ∃ ρ h Vs vs, St (kc X ck) H0 ρ0 B (D :: O) ρ (wipe η own) h (L2.wipe σ own) (upd H4 D (.lst (acc ++ [y]))) ∧ Grow ρ1 H1 ρ (upd H4 D (.lst (acc ++ [y]))) ∧ (upd H4 D (.lst (acc ++ [y]))) D = some (.lst Vs) ∧
            RepL (kc X ck) (off (upd H4 D (.lst (acc ++ [y]))) ((D :: O) ++ ρ)) ρ Vs vs ∧ Vs.length ≤ i + 1 ∧ (mapR (turnLc T own tg cond elt η) (xs.drop (i + 1)) h).bind (fun r h2 => .ok (vs ++ r) h2) = .ok res hres := fun {ρ4 H4 h4 v y} g4 m4 r4 eq4 => by
        have S4' := S3.grow g4 m4
        have hD0 : H0 D = none := by
          cases q : H0 D with
          | none => rfl
          | some u => obtain ⟨o', e'⟩ := S.ali D u q; rw [hD] at e'; cases e'
        have hown' : ∀ (j : Nat) (x : Val), (wipe η own)[j]? = some (Sl.o x) → (L2.wipe σ own)[j]? ≠ some (some (V.ref D)) := fun j x q1 q2 => by
          obtain ⟨a, e1, ho, _, _, _⟩ := (S.wiped own).own j x q1
          rw [e1] at q2
          cases q2
          exact hDO ho
        have S5 := S4'.poke (o := .lst (Vs ++ [y])) (p := D) List.mem_cons_self hown' hD0
        have g34 := g3.trans g4
        have ext5 : Ext H4 ((D :: O) ++ ρ4) (upd H4 D (.lst (Vs ++ [y]))) ((D :: O) ++ ρ4) := fun a q e => by
          obtain ⟨n, e⟩ := off_some.mp e
          refine off_some.mpr ⟨n, ?_⟩
          rw [upd_ne]; exact e
          rintro rfl
          exact n (by rw [List.cons_append]; exact List.mem_cons_self)
        refine ⟨Vs, g4.keep D _ hD' hDρ, ?_, ρ4, h4, Vs ++ [y], vs ++ [v], S5, ⟨g34.pre, g34.new, fun a o q n => ?_, fun a o q => ?_⟩, upd_same, ?_, by rw [List.length_append]; simp; omega, ?_⟩
        · rw [← sz_line]; omega
        · rw [upd_ne (ne_of_none q hD)]; exact g34.keep a o q n
        · obtain ⟨o', e'⟩ := g34.liv a o q
          exact ⟨o', by rw [upd_ne (ne_of_none q hD)]; exact e'⟩
        · exact (((rl.ext (Grow.ext gz) List.prefix_rfl).ext g4.ext g4.pre).append (.cons r4 .nil)).ext ext5 List.prefix_rfl
        · rw [bind_assoc] at eq4
          rw [← eq4]
          congr 1
          funext r h2
          show Res.ok (vs ++ [v] ++ r) h2 = Res.ok (vs ++ (v :: r)) h2
          rw [List.append_assoc]; rfl
      cases cond with
      | no =>
        have ec' : Res.ok true h = Res.ok c h2 := ec
        injection ec' with q1 q2
        subst q1 q2
        simp only [tCd, tYes, if_true]
        rcases rest with ⟨q, _⟩ | ⟨_, v, h3, ev, eq3⟩
        · cases q
        · refine ⟨H0, ρ0, B, D :: O, ρ, η', h, S4, ?_⟩
          rw [ev]
          exact fun y ρ4 H4 g4 m4 r4 => more g4 m4 r4.ff eq3
      | yes e =>
        refine ⟨H0, ρ0, B, D :: O, ρ, η', h, S4, ?_⟩
        have ec' : evT T true e η' h = .ok c h2 := ec
        rw [ec']
        intro k ρ4 H4 g4 m4 hk
        subst hk
        rcases rest with ⟨q, eq3⟩ | ⟨q, v, h3, ev, eq3⟩
        · subst q
          rw [if_neg (by decide)]
          have eq4 : ((mapR (turnLc T own tg (Op.yes e) elt η) (xs.drop (i + 1)) h2).bind fun r h2 => .ok r h2).bind (fun r h2 => .ok (vs ++ r) h2) = .ok res hres := eq3
          rw [bind_ok] at eq4
          exact skip g4 m4 eq4
        · subst q
          rw [if_pos rfl]
          refine ⟨H0, ρ0, B, D :: O, ρ4, η', h2, S4.grow g4 m4, ?_⟩
          rw [ev]
          exact fun y ρ5 H5 g5 m5 r5 => more (g4.trans g5) m5 r5.ff eq3
    · have e : i = xs.length := by omega
      subst e
      refine .inl ⟨st.1 (Nat.le_refl _), ?_⟩
      rw [List.drop_length] at eq
      have eq2 : Res.ok (vs ++ []) h = Res.ok res hres := eq
      rw [List.append_nil] at eq2
      injection eq2 with e1 e2
      subst e1 e2
      refine Fin vs h Vs D ρ H ok g S2.mh hD ?_ hDl rl
      · rw [List.mem_append, not_or]; exact ⟨hDO, hDρ⟩
def InBlk (X : Cx) (scope : Scope) (P : Cx → Prop) : Prop := ∀ (s : Shared) (H : Hp) (C : Addr) (cl : List (PySem.Str × Addr)) (fp : List Addr), P (X.blk s H scope (compEnvC scope cl C X.env) fp)
theorem lc_reads {it : MP.It} {own : List (PySem.Str × Nat)} {tg : Tg} {cond : Op} {elt : E} (hown : ∀ i ∈ tgIx tg, i ∈ own.map (·.2)) {σ : L2.St} {H : Hp} {Q : VK}
    (q : tE (kc X ck) W T b (.lc (own.map (·.2)) tg it cond elt) σ H Q) : tLc (tIt (kc X ck) W T true it) (gT X.K tg) (tCd (kc X ck) (fun _ _ _ _ => False) T cond) (tE (kc X ck) (fun _ _ _ _ => False) T false elt) (own.map (·.2)) σ H Q := by
  obtain ⟨H0, ρ0, B, O, ρ, η, h, S, p⟩ := q
  refine ⟨H0, ρ0, B, O, ρ, η, h, S, p.bind fun J xs ρ1 H1 h1 g m ⟨wk, hz⟩ p1 => ?_⟩
  have S1 := S.grow g m
  have p2 : Pst (kc X ck) W σ O ρ1 H1 (fun H' ρ' z v => RepB (kc X ck) H' O ρ' b z v) Q ((mapR (turnLc T (own.map (·.2)) tg cond elt η) xs h1).bind fun vs h2 => .ok (.lst vs) h2) := p1
  cases er : mapR (turnLc T (own.map (·.2)) tg cond elt η) xs h1 with
  | bad => rw [er] at p2; exact p2.elim
  | exc x h' =>
    exfalso
    have key : ∀ (xs : List Val) (h1 : MH) (x : Exn) (h' : MH), mapR (turnLc T (own.map (·.2)) tg cond elt η) xs h1 ≠ .exc x h' := by
      intro xs
      induction xs with
      | nil => intro h1 x h' e; simp [mapR] at e
      | cons y ys ih =>
        intro h1 x h' e
        simp only [mapR] at e
        obtain ⟨η', c, h2, _, _, rest⟩ := turn_cases e (by simp)
        rcases rest with ⟨_, e2⟩ | ⟨_, v, h3, _, e2⟩
        · cases e3 : mapR (turnLc T (own.map (·.2)) tg cond elt η) ys h2 with
          | ok => rw [e3] at e2; simp at e2
          | exc => exact ih _ _ _ e3
          | bad => rw [e3] at e2; simp at e2
        · cases e3 : mapR (turnLc T (own.map (·.2)) tg cond elt η) ys h3 with
          | ok => rw [e3] at e2; simp at e2
          | exc => exact ih _ _ _ e3
          | bad => rw [e3] at e2; simp at e2
    exact key xs h1 x h' er
  | ok vs h2 =>
    rw [er] at p2
    refine lc_body S1 wk hz hown (fun vs' h2' Vs D ρ2 H2 e2 g2 m2 hD hn hDl rl => ?_) ⟨vs, h2, er⟩
    rw [er] at e2
    injection e2 with q1 q2
    subst q1 q2
    have m2' : MHR (kc X ck) H2 (O ++ ρ2) ρ2 h2 := ⟨m2.len, m2.nd, fun k w a q1 q2 => (m2.at_ k w a q1 q2).to (fun a o q => by
      obtain ⟨n, q⟩ := off_some.mp q
      rw [List.cons_append, List.mem_cons, not_or] at n
      exact off_some.mpr ⟨n.2, q⟩) List.prefix_rfl fun _ q => q⟩
    refine p2 (.ref D) ρ2 H2 g2 m2' (.inl (.lst (SqL.of (off_some.mpr ⟨hn, hDl⟩)) (rl.ext (fun a o q => ?_) List.prefix_rfl)))
    obtain ⟨n, q⟩ := off_some.mp q
    rw [List.cons_append, List.mem_cons, not_or] at n
    exact off_some.mpr ⟨n.2, q⟩
theorem e_lc {it : MP.It} {own : List (PySem.Str × Nat)} {tg : Tg} {cond : Op} {elt : E} {eelt etg eit : Expr} {ifs : List Expr} {scope : Scope} {pos : Pos} (hc : X.calm = true) (hN : X.N.Nodup) (hi : PI X etg eit (tIt (kc X ck) W T true it)) (ok : BlkOk X.N X.env.scope scope own) (hown : ∀ i ∈ tgIx tg, i ∈ own.map (·.2))
    (hg : InBlk X scope fun X' => PG X' etg (gT X'.K tg)) (ht : InBlk X scope fun X' => PTs X' ifs (tCd (kc X' ck) (fun _ _ _ _ => False) T cond)) (he : InBlk X scope fun X' => PE X' eelt (tE (kc X' ck) (fun _ _ _ _ => False) T false elt)) (hs : ∀ x, foldedSetIterable eit X.env x = pure x) :
    PE X (.ListComp eelt [⟨etg, eit, ifs, 0⟩] scope pos) (tE (kc X ck) W T b (.lc (own.map (·.2)) tg it cond elt)) :=
  PE.imp (pe_lc (g := gT X.K tg) (tt := tCd (kc X ck) (fun _ _ _ _ => False) T cond) (te := tE (kc X ck) (fun _ _ _ _ => False) T false elt) hc hN hi ok (fun s H C cl fp => hg s H C cl fp) (fun s H C cl fp => ht s H C cl fp) (fun s H C cl fp => he s H C cl fp) hs) fun pins s σ H Q I q => lc_reads hown q
end
end MP
set_option maxHeartbeats 4000000
set_option autoImplicit false
namespace MP
open PySem PySem.Spec PyProof.Rows L2
def tyN : Ty → String
  | .bool => "bool" | .int => "int" | .str => "str" | .tuple => "tuple" | .list => "list"
def rIs (K : KC) (t : Ty) : List V → Hp → VK → Prop := fun xs H Q => ∃ O ρ x v r, xs = [x, .ty (tyN t)] ∧ isinstV v t = some r ∧ RepB K H O ρ true x v ∧ Q (.bl r) H
theorem rd_list {K : KC} {H : Hp} {O ρ : List Addr} {z : V} {l : List Val} (r : RepB K H O ρ true z (.lst l)) : TyX K.k H z (.type "list") := by
  obtain ⟨a, Vs, rfl, h, _⟩ := r.lst_
  rcases h with h | ⟨o, its, n, h1, h2, _⟩
  · rcases h with h | ⟨o, h⟩
    · exact .base (.lst h)
    · exact .base (.frz h)
  · exact .kList h1 h2
theorem rd_tup {K : KC} {H : Hp} {O ρ : List Addr} {z : V} {l : List Val} (r : RepB K H O ρ true z (.tup l)) : TyX K.k H z (.type "tuple") := by
  obtain ⟨a, Vs, rfl, h, _⟩ := r.tup_
  rcases h with h | ⟨o, its, n, h1, h2, _⟩
  · rcases h with h | ⟨o, h⟩
    · exact .base (.tup h)
    · exact .fTuple h
  · exact .kTuple h1 h2
section
variable {X : Cx} {ck : List (List Ky)} {W : WX} {T : Nat → Fn} {b : Bool}
theorem call_is (t : Ty) : CallR X (.builtin "isinstance") (rIs ⟨X.K, ck⟩ t) := by
  intro pins s σ H xs us Q I r h
  obtain ⟨O, ρ, x, v, k, rfl, e, rx, q⟩ := h
  have key : ∃ u : String, TyX X.K H x (.type u) ∧ kitB u (tyN t) = some k := by
    cases v <;> simp only [isinstV, Option.some.injEq, reduceCtorEq] at e <;> subst e
    · obtain rfl := rx.non_
      exact ⟨_, .base .non, by cases t <;> decide +kernel⟩
    · obtain rfl := rx.bl_
      exact ⟨_, .base (.bl _), by cases t <;> decide +kernel⟩
    · obtain rfl := rx.int_
      exact ⟨_, .base (.int _), by cases t <;> decide +kernel⟩
    · obtain ⟨rfl, _⟩ := rx.str_
      exact ⟨_, .base (.str _), by cases t <;> decide +kernel⟩
    · exact ⟨_, rd_tup rx, by cases t <;> decide +kernel⟩
    · exact ⟨_, rd_list rx, by cases t <;> decide +kernel⟩
    · obtain ⟨a, Vs, rfl, h1, _⟩ := rx.dK_
      exact ⟨_, .base (.dK h1), by cases t <;> decide +kernel⟩
    · obtain ⟨a, Vs, rfl, h1, _⟩ := rx.dT_
      exact ⟨_, .base (.dT h1), by cases t <;> decide +kernel⟩
  obtain ⟨u, ty, ek⟩ := key
  exact call_isi pins s σ H _ us Q I r ⟨x, _, _, _, k, rfl, .ty _, ty, kit_ty ek, q⟩
theorem e_isinst {a : E} {t : Ty} {ea : Expr} {x : PySem.Str} {p0 p1 pos : Pos} (hg : Gl X "isinstance") (hm : X.mg "isinstance" = none) (hgt : Gl X x) (hmt : X.mg x = none) (hvt : bootBuiltins x = some (.type (tyN t))) (hn : x ≠ "__name__") (hdb : (x == ("__debug__" : PySem.Str)) = false)
    (ha : PE X ea (tE (kc X ck) W T true a)) (hs : starEach [ea, .Name x p1] X.env = (false, eval ea X.env) :: starEach [.Name x p1] X.env) : PE X (.Call (.Name "isinstance" p0) [ea, .Name x p1] [] pos) (tE (kc X ck) W T b (.isinst a t)) := by
  have hv : bootBuiltins "isinstance" = some (.builtin "isinstance") := by decide +kernel
  refine PE.imp (pe_callB (call_is (ck := ck) t) hg hm hv (pa_cons ha (pa_cons (pe_bltn (v := .ty (tyN t)) hgt hmt hvt rfl hn hdb) pa_nil) hs) (by decide) (by decide) hs rfl) fun pins s σ H Q I ⟨H0, ρ0, B, O, ρ, η, h, S, p⟩ => ?_
  refine ⟨H0, ρ0, B, O, ρ, η, h, S, p.bind fun z v ρ1 H1 h1 g m r p1 => ?_⟩
  obtain ⟨k, ek, p1⟩ := opt_map p1
  exact ⟨O, ρ1, z, v, k, rfl, ek, r, Pst.ok p1 m (.inl (.bl _))⟩
theorem rg_rep {K : KC} {H : Hp} {ρ : List Addr} (i j : Int) : RepL K H ρ (rgV i j) (rngL i (j - i).toNat) := by
  unfold rgV rngL
  have key : ∀ l : List Nat, RepL K H ρ (l.map fun k => V.int (i + (k : Nat))) (l.map fun k => Val.int (i + (k : Nat))) := by
    intro l
    induction l with
    | nil => exact .nil
    | cons k l ih => exact .cons (.int _) ih
  exact key _
theorem rg_ok {i j : Int} (h : (rgOk i j && decide ((j - i).toNat ≤ sz)) = true) : RgOk i j := by
  rw [Bool.and_eq_true, decide_eq_true_eq] at h
  obtain ⟨hr, hz⟩ := h
  simp only [rgOk, Bool.and_eq_true, decide_eq_true_eq] at hr
  exact ⟨hr.1.1.1, hr.1.1.2, hr.1.2, hr.2, by rw [show (2 : Nat) ^ 24 = sz from by decide +kernel]; exact hz⟩
theorem e_lrg {t : Bool} {a : E} {ea : Expr} {x : PySem.Str} {p0 p1 pos pos1 : Pos} (hx : x = if t then ("tuple" : PySem.Str) else "list") (hc : X.calm = true) (hg : Gl X x) (hm : X.mg x = none) (hgr : Gl X "range") (hmr : X.mg "range" = none) (ha : PE X ea (tE (kc X ck) W T true a)) (hs : starEach [ea] X.env = [(false, eval ea X.env)]) :
    PE X (.Call (.Name x p0) [.Call (.Name "range" p1) [ea] [] pos1] [] pos) (tE (kc X ck) W T b (.lrg t a)) := by
  have go : ∀ {σ : L2.St} {H : Hp} {Q : VK}, tE (kc X ck) W T b (.lrg t a) σ H Q → tE (kc X ck) W T true a σ H fun y H1 => ∃ n, y = .int n ∧ RgOk 0 n ∧ ∀ q, H1 q = none → Q (.ref q) (upd H1 q (if t then .tup (rgV 0 n) else .lst (rgV 0 n))) := by
    rintro σ H Q ⟨H0, ρ0, B, O, ρ, η, h, S, p⟩
    refine ⟨H0, ρ0, B, O, ρ, η, h, S, p.bind fun z v ρ1 H1 h1 g m r p1 => ?_⟩
    cases v with
    | int j =>
      obtain rfl := r.int_
      have p2 : Pst (kc X ck) W σ O ρ1 H1 (fun H' ρ' z v => RepB (kc X ck) H' O ρ' b z v) Q (if (rgOk 0 j && decide (j.toNat ≤ sz)) = true then Res.ok (mkL t (rngL 0 j.toNat)) h1 else .bad) := p1
      split at p2
      · rename_i hz
        have hz' : (rgOk 0 j && decide ((j - 0).toNat ≤ sz)) = true := by rw [Int.sub_zero]; exact hz
        refine ⟨j, rfl, rg_ok hz', fun q hq => ?_⟩
        have rr : RepL (kc X ck) (off H1 (O ++ ρ1)) ρ1 (rgV 0 j) (rngL 0 j.toNat) := by
          have := rg_rep (K := kc X ck) (H := off H1 (O ++ ρ1)) (ρ := ρ1) 0 j
          rw [Int.sub_zero] at this; exact this
        have md := Pst.made p2 m
        cases t with
        | true => exact md.tup (S.grow g m).alive rr q hq
        | false => exact md.lst (S.grow g m).alive rr q hq
      · exact p2.elim
    | _ => exact p1.elim
  cases t with
  | true =>
    subst hx
    refine PE.imp (pe_tupRg hc hg hm (prg_1 hgr hmr ha hs)) fun pins s σ H Q I q => ?_
    obtain ⟨H0, ρ0, B, O, ρ, η, h, S, p⟩ := go q
    refine ⟨H0, ρ0, B, O, ρ, η, h, S, ?_⟩
    cases e : evE T true a η h with
    | bad => rw [e] at p; exact p
    | exc => rw [e] at p; exact p
    | ok v h1 =>
      rw [e] at p
      intro z ρ' H' g m r
      obtain ⟨n, e1, e2, e3⟩ := p z ρ' H' g m r
      exact ⟨n, e1, e2, e3⟩
  | false =>
    subst hx
    refine PE.imp (pe_listRg hc hg hm (prg_1 hgr hmr ha hs)) fun pins s σ H Q I q => ?_
    obtain ⟨H0, ρ0, B, O, ρ, η, h, S, p⟩ := go q
    refine ⟨H0, ρ0, B, O, ρ, η, h, S, ?_⟩
    cases e : evE T true a η h with
    | bad => rw [e] at p; exact p
    | exc => rw [e] at p; exact p
    | ok v h1 =>
      rw [e] at p
      intro z ρ' H' g m r
      obtain ⟨n, e1, e2, e3⟩ := p z ρ' H' g m r
      exact ⟨n, e1, e2, e3⟩
theorem e_lrg2 {t : Bool} {a a2 : E} {ea eb : Expr} {x : PySem.Str} {p0 p1 pos pos1 : Pos} (hx : x = if t then ("tuple" : PySem.Str) else "list") (hc : X.calm = true) (hg : Gl X x) (hm : X.mg x = none) (hgr : Gl X "range") (hmr : X.mg "range" = none) (ha : PE X ea (tE (kc X ck) W T true a)) (hb : PE X eb (tE (kc X ck) W T true a2)) (hs : starEach [ea, eb] X.env = (false, eval ea X.env) :: starEach [eb] X.env) (hs2 : starEach [eb] X.env = [(false, eval eb X.env)]) :
    PE X (.Call (.Name x p0) [.Call (.Name "range" p1) [ea, eb] [] pos1] [] pos) (tE (kc X ck) W T b (.lrg2 t a a2)) := by
  have go : ∀ {σ : L2.St} {H : Hp} {Q : VK}, tE (kc X ck) W T b (.lrg2 t a a2) σ H Q → tE (kc X ck) W T true a σ H fun y H1 => tE (kc X ck) W T true a2 σ H1 fun w H2 => ∃ i n, y = .int i ∧ w = .int n ∧ RgOk i n ∧ ∀ q, H2 q = none → Q (.ref q) (upd H2 q (if t then .tup (rgV i n) else .lst (rgV i n))) := by
    rintro σ H Q ⟨H0, ρ0, B, O, ρ, η, h, S, p⟩
    refine two S p fun x y v w ρ2 H2 h2 S2 rx ry p1 => ?_
    cases v with
    | int i => cases w with
      | int j =>
        obtain rfl := rx.int_
        obtain rfl := ry.int_
        have p2 : Pst (kc X ck) W σ O ρ2 H2 (fun H' ρ' z v => RepB (kc X ck) H' O ρ' b z v) Q (if (rgOk i j && decide ((j - i).toNat ≤ sz)) = true then Res.ok (mkL t (rngL i (j - i).toNat)) h2 else .bad) := p1
        split at p2
        · rename_i hz
          refine ⟨i, j, rfl, rfl, rg_ok hz, fun q hq => ?_⟩
          have md := Pst.made p2 S2.mh
          cases t with
          | true => exact md.tup S2.alive (rg_rep i j) q hq
          | false => exact md.lst S2.alive (rg_rep i j) q hq
        · exact p2.elim
      | _ => exact p1.elim
    | _ => cases w <;> exact p1.elim
  have fin : ∀ {σ : L2.St} {H : Hp} {R R' : V → V → Hp → Prop}, (∀ y w H2, R y w H2 → R' y w H2) → (tE (kc X ck) W T true a σ H fun y H1 => tE (kc X ck) W T true a2 σ H1 fun w H2 => R y w H2) → (tE (kc X ck) W T true a σ H fun y H1 => tE (kc X ck) W T true a2 σ H1 fun w H2 => R' y w H2) := by
    rintro σ H R R' i ⟨H0, ρ0, B, O, ρ, η, h, S, p⟩
    refine ⟨H0, ρ0, B, O, ρ, η, h, S, ?_⟩
    cases e : evE T true a η h with
    | bad => rw [e] at p; exact p
    | exc => rw [e] at p; exact p
    | ok v h1 =>
      rw [e] at p
      intro z ρ' H' g m r
      obtain ⟨H0', ρ0', B', O', ρ'', η', h', S', p'⟩ := p z ρ' H' g m r
      refine ⟨H0', ρ0', B', O', ρ'', η', h', S', ?_⟩
      cases e2 : evE T true a2 η' h' with
      | bad => rw [e2] at p'; exact p'
      | exc => rw [e2] at p'; exact p'
      | ok v2 h2 =>
        rw [e2] at p'
        intro z2 ρ2 H2 g2 m2 r2
        exact i _ _ _ (p' z2 ρ2 H2 g2 m2 r2)
  cases t with
  | true =>
    subst hx
    exact PE.imp (pe_tupRg hc hg hm (prg_2 hgr hmr ha hb hs hs2 (by rw [hs2]; rfl))) fun pins s σ H Q I q => fin (fun y w H2 ⟨i, n, e1, e2, e3, e4⟩ => ⟨i, n, e1, e2, e3, e4⟩) (go q)
  | false =>
    subst hx
    exact PE.imp (pe_listRg hc hg hm (prg_2 hgr hmr ha hb hs hs2 (by rw [hs2]; rfl))) fun pins s σ H Q I q => fin (fun y w H2 ⟨i, n, e1, e2, e3, e4⟩ => ⟨i, n, e1, e2, e3, e4⟩) (go q)
end
end MP
set_option maxHeartbeats 4000000
set_option autoImplicit false
namespace MP
open PySem PySem.Spec PyProof.Rows L2
open Sem (wp)
theorem typeCall_zip_4 (a b c d : Value) : checkTypeCall "zip" ⟨[a, b, c, d], []⟩ = pure () := by kernel_rfl
theorem newCall_zip_4 (a b c d : Value) : checkBuiltinCall "zip.__new__" ⟨[.type "zip", a, b, c, d], []⟩ = pure () := by kernel_rfl
theorem args_object_init_5 (a b c d e : Value) : argsOk "object.__init__" ⟨[a, b, c, d, e], []⟩ := by
  unfold argsOk; rw [signature?_of (id := "object.__init__") (n := ['_', '_', 't', 'i', 'n', 'i', '_', '_']) (o := ['t', 'c', 'e', 'j', 'b', 'o']) (by kernel_rfl) F.owner_object]; kernel_rfl
theorem nq {a b : Nat} (h : a ≠ b) : @Ne Addr a b := h
abbrev IsQ (h : Heap) (T : Addr) (a b c d : Value) : Prop := h.get? T = some { cls := .type "tuple", data := .seq #[a, b, c, d] }
section
variable {prog : Program} {w : World} {A : Around} {E : Value → Shared → Prop} {s : Shared}
theorem updQ {T : Addr} {a b c d x : Value} {k : Nat} {Q : Unit → Shared → Prop} (hT : IsQ s.heap T a b c d)
    (h : ∀ h', h'.get? T = some { cls := .type "tuple", data := .seq ((#[a, b, c, d] : Array Value).setIfInBounds k x) } → Heap.SameBut T s.heap h' → Q () { s with heap := h' }) :
    wpAny (model prog w) A (updateSeq T (·.setIfInBounds k x)) Q E s := by
  refine wpAny_updateSeq hT rfl (h _ ?_ (Heap.SameBut.update ..))
  rw [Heap.get?_update_self _ hT rfl]
  simp [Obj.mapSeq]
theorem zip4_item {n k l1 l2 l3 l4 : Nat} {xs1 xs2 xs3 xs4 : Array Value} {x1 x2 x3 x4 a1 a2 a3 a4 : Value} {Q : Value → Shared → Prop} (b1 : l1 < n) (b2 : l2 < n) (b3 : l3 < n) (b4 : l4 < n)
    (hz : IsZip s.heap (n + 6) (n + 4) (n + 5) .none) (hTI : IsQ s.heap (n + 4) (.ref n) (.ref (n + 1)) (.ref (n + 2)) (.ref (n + 3))) (hTO : IsQ s.heap (n + 5) a1 a2 a3 a4)
    (h1 : s.heap.IsListIter n l1 k) (h2 : s.heap.IsListIter (n + 1) l2 k) (h3 : s.heap.IsListIter (n + 2) l3 k) (h4 : s.heap.IsListIter (n + 3) l4 k) (hl1 : s.heap.IsList l1 xs1) (hl2 : s.heap.IsList l2 xs2) (hl3 : s.heap.IsList l3 xs3) (hl4 : s.heap.IsList l4 xs4) (hx1 : xs1[k]? = some x1) (hx2 : xs2[k]? = some x2) (hx3 : xs3[k]? = some x3) (hx4 : xs4[k]? = some x4)
    (hQ : ∀ h', IsZip h' (n + 6) (n + 4) (n + 5) (rawInt s.heap.objs.size) → IsQ h' (n + 5) x1 x2 x3 x4 → h'.IsListIter n l1 (k + 1) → h'.IsListIter (n + 1) l2 (k + 1) → h'.IsListIter (n + 2) l3 (k + 1) → h'.IsListIter (n + 3) l4 (k + 1) → IsQ h' s.heap.objs.size x1 x2 x3 x4 → h'.objs.size = s.heap.objs.size + 1 →
      (∀ c o, c ≠ (n + 6) → c ≠ (n + 5) → c ≠ n → c ≠ (n + 1) → c ≠ (n + 2) → c ≠ (n + 3) → s.heap.get? c = some o → h'.get? c = some o) → Q (.ref s.heap.objs.size) { s with heap := h' }) :
    wpAny (model prog w) A (Builtin.«zip.__next__» ⟨[.ref (n + 6)], []⟩) (fun fin s' => ∃ v, fin = .done (.ret v) ∧ Q v s') E s := by
  show wpAny _ _ (field (.ref (n + 6)) 2 >>= _) _ _ _
  refine wpAny_bind (wpAny_field hz rfl (x := .bool false) rfl ?_)
  show wpAny _ _ (field (.ref (n + 6)) 3 >>= _) _ _ _
  refine wpAny_bind (wpAny_field hz rfl (x := .ref (n + 4)) rfl ?_)
  refine wpAny_bind (wpAny_seqItems hTI rfl ?_)
  show wpAny _ _ (Builtin.SmallTypes.ownedTupleIsFree (.ref (n + 6)) >>= _) _ _ _
  refine wpAny_bind ?_
  unfold Builtin.SmallTypes.ownedTupleIsFree
  refine wpAny_bind (wpAny_field hz rfl (x := .none) rfl (wpAny_pure ?_))
  simp only [if_true]
  refine wpAny_bind (wpAny_rule ?_)
  refine wpAny_bind (wpAny_field hz rfl (x := .ref (n + 5)) rfl ?_)
  refine wpAny_bind (wpAny_setField_rec hz (by simp) fun g0 hz₁ hs0 => ?_)
  replace hz₁ : IsZip g0 (n + 6) (n + 4) (n + 5) .ellipsis := hz₁
  refine wpAny_bind ?_
  simp only [List.zipIdx_cons, List.zipIdx_nil, List.forIn_cons, List.forIn_nil]
  refine wpAny_bind (wpAny_bind (wpAny_onRaise ?_))
  show wpAny _ _ (Builtin.SmallTypes.nextOf (.ref n) >>= _) _ _ _
  refine wpAny_bind (wpAny_nextOf_list_item (h1.extBut hs0.extBut (nq (by omega))) (hl1.extBut hs0.extBut (nq (by omega))) hx1 fun p1 hi1 hp1 => wpAny_pure ?_)
  have hu1 : IsQ p1 (n + 5) a1 a2 a3 a4 := hp1.extBut _ _ (nq (by omega)) (hs0.extBut _ _ (nq (by omega)) (hTO))
  refine wpAny_bind (wpAny_seqItems hu1 rfl ?_)
  refine wpAny_bind (updQ hu1 fun q1 ht1 hq1 => ?_)
  replace ht1 : IsQ q1 (n + 5) x1 a2 a3 a4 := ht1
  refine wpAny_bind (wpAny_letGo (wpAny_pure ?_))
  refine wpAny_bind (wpAny_bind (wpAny_onRaise ?_))
  show wpAny _ _ (Builtin.SmallTypes.nextOf (.ref (n + 1)) >>= _) _ _ _
  refine wpAny_bind (wpAny_nextOf_list_item (((h2.extBut hs0.extBut (nq (by omega))).extBut hp1.extBut (nq (by omega))).extBut hq1.extBut (nq (by omega))) (((hl2.extBut hs0.extBut (nq (by omega))).extBut hp1.extBut (nq (by omega))).extBut hq1.extBut (nq (by omega))) hx2 fun p2 hi2 hp2 => wpAny_pure ?_)
  have hu2 : IsQ p2 (n + 5) x1 a2 a3 a4 := hp2.extBut _ _ (nq (by omega)) (ht1)
  refine wpAny_bind (wpAny_seqItems hu2 rfl ?_)
  refine wpAny_bind (updQ hu2 fun q2 ht2 hq2 => ?_)
  replace ht2 : IsQ q2 (n + 5) x1 x2 a3 a4 := ht2
  refine wpAny_bind (wpAny_letGo (wpAny_pure ?_))
  refine wpAny_bind (wpAny_bind (wpAny_onRaise ?_))
  show wpAny _ _ (Builtin.SmallTypes.nextOf (.ref (n + 2)) >>= _) _ _ _
  refine wpAny_bind (wpAny_nextOf_list_item (((((h3.extBut hs0.extBut (nq (by omega))).extBut hp1.extBut (nq (by omega))).extBut hq1.extBut (nq (by omega))).extBut hp2.extBut (nq (by omega))).extBut hq2.extBut (nq (by omega))) (((((hl3.extBut hs0.extBut (nq (by omega))).extBut hp1.extBut (nq (by omega))).extBut hq1.extBut (nq (by omega))).extBut hp2.extBut (nq (by omega))).extBut hq2.extBut (nq (by omega))) hx3 fun p3 hi3 hp3 => wpAny_pure ?_)
  have hu3 : IsQ p3 (n + 5) x1 x2 a3 a4 := hp3.extBut _ _ (nq (by omega)) (ht2)
  refine wpAny_bind (wpAny_seqItems hu3 rfl ?_)
  refine wpAny_bind (updQ hu3 fun q3 ht3 hq3 => ?_)
  replace ht3 : IsQ q3 (n + 5) x1 x2 x3 a4 := ht3
  refine wpAny_bind (wpAny_letGo (wpAny_pure ?_))
  refine wpAny_bind (wpAny_bind (wpAny_onRaise ?_))
  show wpAny _ _ (Builtin.SmallTypes.nextOf (.ref (n + 3)) >>= _) _ _ _
  refine wpAny_bind (wpAny_nextOf_list_item (((((((h4.extBut hs0.extBut (nq (by omega))).extBut hp1.extBut (nq (by omega))).extBut hq1.extBut (nq (by omega))).extBut hp2.extBut (nq (by omega))).extBut hq2.extBut (nq (by omega))).extBut hp3.extBut (nq (by omega))).extBut hq3.extBut (nq (by omega))) (((((((hl4.extBut hs0.extBut (nq (by omega))).extBut hp1.extBut (nq (by omega))).extBut hq1.extBut (nq (by omega))).extBut hp2.extBut (nq (by omega))).extBut hq2.extBut (nq (by omega))).extBut hp3.extBut (nq (by omega))).extBut hq3.extBut (nq (by omega))) hx4 fun p4 hi4 hp4 => wpAny_pure ?_)
  have hu4 : IsQ p4 (n + 5) x1 x2 x3 a4 := hp4.extBut _ _ (nq (by omega)) (ht3)
  refine wpAny_bind (wpAny_seqItems hu4 rfl ?_)
  refine wpAny_bind (updQ hu4 fun q4 ht4 hq4 => ?_)
  replace ht4 : IsQ q4 (n + 5) x1 x2 x3 x4 := ht4
  refine wpAny_bind (wpAny_letGo (wpAny_pure (wpAny_pure ?_)))
  refine wpAny_bind (wpAny_seqItems ht4 rfl ?_)
  refine wpAny_bind (wpAny_newTuple ?_)
  have hsz : q4.objs.size = s.heap.objs.size := by rw [hq4.1, hp4.1, hq3.1, hp3.1, hq2.1, hp2.1, hq1.1, hp1.1, hs0.1]
  have hz5 : IsZip q4 (n + 6) (n + 4) (n + 5) .ellipsis := hq4.extBut _ _ (nq (by omega)) (hp4.extBut _ _ (nq (by omega)) (hq3.extBut _ _ (nq (by omega)) (hp3.extBut _ _ (nq (by omega)) (hq2.extBut _ _ (nq (by omega)) (hp2.extBut _ _ (nq (by omega)) (hq1.extBut _ _ (nq (by omega)) (hp1.extBut _ _ (nq (by omega)) (hz₁))))))))
  have hk5 : ∀ c o, c ≠ (n + 6) → c ≠ (n + 5) → c ≠ n → c ≠ (n + 1) → c ≠ (n + 2) → c ≠ (n + 3) → s.heap.get? c = some o → q4.get? c = some o := fun c o c1 c2 d1 d2 d3 d4 e =>
    hq4.extBut _ _ c2 (hp4.extBut _ _ d4 (hq3.extBut _ _ c2 (hp3.extBut _ _ d3 (hq2.extBut _ _ c2 (hp2.extBut _ _ d2 (hq1.extBut _ _ c2 (hp1.extBut _ _ d1 (hs0.extBut _ _ c1 (e)))))))))
  have hj1 : q4.IsListIter n l1 (k + 1) := (((((((hi1.extBut hq1.extBut (nq (by omega))).extBut hp2.extBut (nq (by omega))).extBut hq2.extBut (nq (by omega))).extBut hp3.extBut (nq (by omega))).extBut hq3.extBut (nq (by omega))).extBut hp4.extBut (nq (by omega))).extBut hq4.extBut (nq (by omega)))
  have hj2 : q4.IsListIter (n + 1) l2 (k + 1) := (((((hi2.extBut hq2.extBut (nq (by omega))).extBut hp3.extBut (nq (by omega))).extBut hq3.extBut (nq (by omega))).extBut hp4.extBut (nq (by omega))).extBut hq4.extBut (nq (by omega)))
  have hj3 : q4.IsListIter (n + 2) l3 (k + 1) := (((hi3.extBut hq3.extBut (nq (by omega))).extBut hp4.extBut (nq (by omega))).extBut hq4.extBut (nq (by omega)))
  have hj4 : q4.IsListIter (n + 3) l4 (k + 1) := (hi4.extBut hq4.extBut (nq (by omega)))
  have hzlt : (n + 6) < q4.objs.size := Heap.lt_size hz5
  show wpAny _ _ (Builtin.SmallTypes.ownedTupleHandOut (.ref (n + 6)) (.ref q4.objs.size) >>= _) _ _ _
  refine wpAny_bind ?_
  unfold Builtin.SmallTypes.ownedTupleHandOut
  have hz₆ : IsZip (q4.push { cls := .type "tuple", data := .seq #[x1, x2, x3, x4] }) (n + 6) (n + 4) (n + 5) .ellipsis := Heap.get?_push_of_some _ hz5
  refine wpAny_bind (wpAny_setField_rec hz₆ (by simp) fun h₇ hz₇ hs₇ => ?_)
  replace hz₇ : IsZip h₇ (n + 6) (n + 4) (n + 5) (rawInt q4.objs.size) := hz₇
  refine wpAny_setField_rec hz₇ (by simp) fun h₈ hz₈ hs₈ => ?_
  replace hz₈ : IsZip h₈ (n + 6) (n + 4) (n + 5) (rawInt q4.objs.size) := hz₈
  have up : ∀ c o, c ≠ (n + 6) → q4.get? c = some o → h₈.get? c = some o := fun c o c1 e => hs₈.extBut _ _ c1 (hs₇.extBut _ _ c1 (Heap.get?_push_of_some _ e))
  have hT₈ : IsQ h₈ q4.objs.size x1 x2 x3 x4 := hs₈.extBut _ _ (Nat.ne_of_gt hzlt) (hs₇.extBut _ _ (Nat.ne_of_gt hzlt) (Heap.get?_push_size _ rfl))
  have hz8 : h₈.objs.size = q4.objs.size + 1 := by rw [hs₈.1, hs₇.1, Heap.size_push]
  rw [hsz] at hz₈ hT₈ hz8
  refine wpAny_pure ⟨_, rfl, ?_⟩
  show Q (.ref q4.objs.size) _
  rw [hsz]
  exact hQ h₈ hz₈ (up _ _ (nq (by omega)) ht4) (hj1.at fun o e => up _ o (nq (by omega)) e) (hj2.at fun o e => up _ o (nq (by omega)) e) (hj3.at fun o e => up _ o (nq (by omega)) e) (hj4.at fun o e => up _ o (nq (by omega)) e) hT₈ hz8 fun c o c1 c2 d1 d2 d3 d4 e => up c o c1 (hk5 c o c1 c2 d1 d2 d3 d4 e)
theorem zip4_end {n k l1 l2 l3 l4 : Nat} {xs1 xs2 xs3 xs4 : Array Value} {a1 a2 a3 a4 : Value} {Q : Fin → Shared → Prop} (hh : A.handled = none) (b1 : l1 < n) (b2 : l2 < n) (b3 : l3 < n) (b4 : l4 < n)
    (hz : IsZip s.heap (n + 6) (n + 4) (n + 5) .none) (hTI : IsQ s.heap (n + 4) (.ref n) (.ref (n + 1)) (.ref (n + 2)) (.ref (n + 3))) (hTO : IsQ s.heap (n + 5) a1 a2 a3 a4)
    (h1 : s.heap.IsListIter n l1 k) (h2 : s.heap.IsListIter (n + 1) l2 k) (h3 : s.heap.IsListIter (n + 2) l3 k) (h4 : s.heap.IsListIter (n + 3) l4 k) (hl1 : s.heap.IsList l1 xs1) (hl2 : s.heap.IsList l2 xs2) (hl3 : s.heap.IsList l3 xs3) (hl4 : s.heap.IsList l4 xs4)
    (hend : xs1[k]? = none ∨ xs2[k]? = none ∨ xs3[k]? = none ∨ xs4[k]? = none)
    (hE : ∀ h' e, (∀ c o, c ≠ (n + 6) → c ≠ (n + 5) → c ≠ n → c ≠ (n + 1) → c ≠ (n + 2) → c ≠ (n + 3) → s.heap.get? c = some o → h'.get? c = some o) → (∃ o, h'.get? e = some o ∧ o.cls = .type "StopIteration") → E (.ref e) { s with heap := h' }) :
    wpAny (model prog w) A (Builtin.«zip.__next__» ⟨[.ref (n + 6)], []⟩) Q E s := by
  show wpAny _ _ (field (.ref (n + 6)) 2 >>= _) _ _ _
  refine wpAny_bind (wpAny_field hz rfl (x := .bool false) rfl ?_)
  show wpAny _ _ (field (.ref (n + 6)) 3 >>= _) _ _ _
  refine wpAny_bind (wpAny_field hz rfl (x := .ref (n + 4)) rfl ?_)
  refine wpAny_bind (wpAny_seqItems hTI rfl ?_)
  show wpAny _ _ (Builtin.SmallTypes.ownedTupleIsFree (.ref (n + 6)) >>= _) _ _ _
  refine wpAny_bind ?_
  unfold Builtin.SmallTypes.ownedTupleIsFree
  refine wpAny_bind (wpAny_field hz rfl (x := .none) rfl (wpAny_pure ?_))
  simp only [if_true]
  refine wpAny_bind (wpAny_rule ?_)
  refine wpAny_bind (wpAny_field hz rfl (x := .ref (n + 5)) rfl ?_)
  refine wpAny_bind (wpAny_setField_rec hz (by simp) fun g0 hz₁ hs0 => ?_)
  replace hz₁ : IsZip g0 (n + 6) (n + 4) (n + 5) .ellipsis := hz₁
  refine wpAny_bind ?_
  simp only [List.zipIdx_cons, List.zipIdx_nil, List.forIn_cons, List.forIn_nil]
  refine wpAny_bind (wpAny_bind (wpAny_onRaise ?_))
  show wpAny _ _ (Builtin.SmallTypes.nextOf (.ref n) >>= _) _ _ _
  cases hx1 : xs1[k]? with
  | none =>
    refine wpAny_bind (wpAny_nextOf_list_end hh (h1.extBut hs0.extBut (nq (by omega))) (hl1.extBut hs0.extBut (nq (by omega))) hx1 fun p e hp he => ?_)
    obtain ⟨oe, hoe, hce⟩ := he
    have hz4 : IsZip p (n + 6) (n + 4) (n + 5) .ellipsis := hp _ _ (nq (by omega)) (hz₁)
    have hez : e ≠ (n + 6) := fun x => by subst x; rw [hz4] at hoe; cases hoe; simp at hce
    refine wpAny_setField_rec hz4 (by simp) fun h5 _ hs5 => hE h5 e (fun c o c1 c2 d1 d2 d3 d4 x => hs5.extBut _ _ c1 (hp _ _ d1 (hs0.extBut _ _ c1 (x)))) ⟨oe, hs5.extBut _ _ hez hoe, hce⟩
  | some x1 =>
    refine wpAny_bind (wpAny_nextOf_list_item (h1.extBut hs0.extBut (nq (by omega))) (hl1.extBut hs0.extBut (nq (by omega))) hx1 fun p1 hi1 hp1 => wpAny_pure ?_)
    have hu1 : IsQ p1 (n + 5) a1 a2 a3 a4 := hp1.extBut _ _ (nq (by omega)) (hs0.extBut _ _ (nq (by omega)) (hTO))
    refine wpAny_bind (wpAny_seqItems hu1 rfl ?_)
    refine wpAny_bind (updQ hu1 fun q1 ht1 hq1 => ?_)
    replace ht1 : IsQ q1 (n + 5) x1 a2 a3 a4 := ht1
    refine wpAny_bind (wpAny_letGo (wpAny_pure ?_))
    refine wpAny_bind (wpAny_bind (wpAny_onRaise ?_))
    show wpAny _ _ (Builtin.SmallTypes.nextOf (.ref (n + 1)) >>= _) _ _ _
    cases hx2 : xs2[k]? with
    | none =>
      refine wpAny_bind (wpAny_nextOf_list_end hh (((h2.extBut hs0.extBut (nq (by omega))).extBut hp1.extBut (nq (by omega))).extBut hq1.extBut (nq (by omega))) (((hl2.extBut hs0.extBut (nq (by omega))).extBut hp1.extBut (nq (by omega))).extBut hq1.extBut (nq (by omega))) hx2 fun p e hp he => ?_)
      obtain ⟨oe, hoe, hce⟩ := he
      have hz4 : IsZip p (n + 6) (n + 4) (n + 5) .ellipsis := hp _ _ (nq (by omega)) (hq1.extBut _ _ (nq (by omega)) (hp1.extBut _ _ (nq (by omega)) (hz₁)))
      have hez : e ≠ (n + 6) := fun x => by subst x; rw [hz4] at hoe; cases hoe; simp at hce
      refine wpAny_setField_rec hz4 (by simp) fun h5 _ hs5 => hE h5 e (fun c o c1 c2 d1 d2 d3 d4 x => hs5.extBut _ _ c1 (hp _ _ d2 (hq1.extBut _ _ c2 (hp1.extBut _ _ d1 (hs0.extBut _ _ c1 (x)))))) ⟨oe, hs5.extBut _ _ hez hoe, hce⟩
    | some x2 =>
      refine wpAny_bind (wpAny_nextOf_list_item (((h2.extBut hs0.extBut (nq (by omega))).extBut hp1.extBut (nq (by omega))).extBut hq1.extBut (nq (by omega))) (((hl2.extBut hs0.extBut (nq (by omega))).extBut hp1.extBut (nq (by omega))).extBut hq1.extBut (nq (by omega))) hx2 fun p2 hi2 hp2 => wpAny_pure ?_)
      have hu2 : IsQ p2 (n + 5) x1 a2 a3 a4 := hp2.extBut _ _ (nq (by omega)) (ht1)
      refine wpAny_bind (wpAny_seqItems hu2 rfl ?_)
      refine wpAny_bind (updQ hu2 fun q2 ht2 hq2 => ?_)
      replace ht2 : IsQ q2 (n + 5) x1 x2 a3 a4 := ht2
      refine wpAny_bind (wpAny_letGo (wpAny_pure ?_))
      refine wpAny_bind (wpAny_bind (wpAny_onRaise ?_))
      show wpAny _ _ (Builtin.SmallTypes.nextOf (.ref (n + 2)) >>= _) _ _ _
      cases hx3 : xs3[k]? with
      | none =>
        refine wpAny_bind (wpAny_nextOf_list_end hh (((((h3.extBut hs0.extBut (nq (by omega))).extBut hp1.extBut (nq (by omega))).extBut hq1.extBut (nq (by omega))).extBut hp2.extBut (nq (by omega))).extBut hq2.extBut (nq (by omega))) (((((hl3.extBut hs0.extBut (nq (by omega))).extBut hp1.extBut (nq (by omega))).extBut hq1.extBut (nq (by omega))).extBut hp2.extBut (nq (by omega))).extBut hq2.extBut (nq (by omega))) hx3 fun p e hp he => ?_)
        obtain ⟨oe, hoe, hce⟩ := he
        have hz4 : IsZip p (n + 6) (n + 4) (n + 5) .ellipsis := hp _ _ (nq (by omega)) (hq2.extBut _ _ (nq (by omega)) (hp2.extBut _ _ (nq (by omega)) (hq1.extBut _ _ (nq (by omega)) (hp1.extBut _ _ (nq (by omega)) (hz₁)))))
        have hez : e ≠ (n + 6) := fun x => by subst x; rw [hz4] at hoe; cases hoe; simp at hce
        refine wpAny_setField_rec hz4 (by simp) fun h5 _ hs5 => hE h5 e (fun c o c1 c2 d1 d2 d3 d4 x => hs5.extBut _ _ c1 (hp _ _ d3 (hq2.extBut _ _ c2 (hp2.extBut _ _ d2 (hq1.extBut _ _ c2 (hp1.extBut _ _ d1 (hs0.extBut _ _ c1 (x)))))))) ⟨oe, hs5.extBut _ _ hez hoe, hce⟩
      | some x3 =>
        refine wpAny_bind (wpAny_nextOf_list_item (((((h3.extBut hs0.extBut (nq (by omega))).extBut hp1.extBut (nq (by omega))).extBut hq1.extBut (nq (by omega))).extBut hp2.extBut (nq (by omega))).extBut hq2.extBut (nq (by omega))) (((((hl3.extBut hs0.extBut (nq (by omega))).extBut hp1.extBut (nq (by omega))).extBut hq1.extBut (nq (by omega))).extBut hp2.extBut (nq (by omega))).extBut hq2.extBut (nq (by omega))) hx3 fun p3 hi3 hp3 => wpAny_pure ?_)
        have hu3 : IsQ p3 (n + 5) x1 x2 a3 a4 := hp3.extBut _ _ (nq (by omega)) (ht2)
        refine wpAny_bind (wpAny_seqItems hu3 rfl ?_)
        refine wpAny_bind (updQ hu3 fun q3 ht3 hq3 => ?_)
        replace ht3 : IsQ q3 (n + 5) x1 x2 x3 a4 := ht3
        refine wpAny_bind (wpAny_letGo (wpAny_pure ?_))
        refine wpAny_bind (wpAny_bind (wpAny_onRaise ?_))
        show wpAny _ _ (Builtin.SmallTypes.nextOf (.ref (n + 3)) >>= _) _ _ _
        have hx4 : xs4[k]? = none := by
          rcases hend with h | h | h | h
          · rw [hx1] at h; cases h
          · rw [hx2] at h; cases h
          · rw [hx3] at h; cases h
          · exact h
        refine wpAny_bind (wpAny_nextOf_list_end hh (((((((h4.extBut hs0.extBut (nq (by omega))).extBut hp1.extBut (nq (by omega))).extBut hq1.extBut (nq (by omega))).extBut hp2.extBut (nq (by omega))).extBut hq2.extBut (nq (by omega))).extBut hp3.extBut (nq (by omega))).extBut hq3.extBut (nq (by omega))) (((((((hl4.extBut hs0.extBut (nq (by omega))).extBut hp1.extBut (nq (by omega))).extBut hq1.extBut (nq (by omega))).extBut hp2.extBut (nq (by omega))).extBut hq2.extBut (nq (by omega))).extBut hp3.extBut (nq (by omega))).extBut hq3.extBut (nq (by omega))) hx4 fun p e hp he => ?_)
        obtain ⟨oe, hoe, hce⟩ := he
        have hz4 : IsZip p (n + 6) (n + 4) (n + 5) .ellipsis := hp _ _ (nq (by omega)) (hq3.extBut _ _ (nq (by omega)) (hp3.extBut _ _ (nq (by omega)) (hq2.extBut _ _ (nq (by omega)) (hp2.extBut _ _ (nq (by omega)) (hq1.extBut _ _ (nq (by omega)) (hp1.extBut _ _ (nq (by omega)) (hz₁)))))))
        have hez : e ≠ (n + 6) := fun x => by subst x; rw [hz4] at hoe; cases hoe; simp at hce
        refine wpAny_setField_rec hz4 (by simp) fun h5 _ hs5 => hE h5 e (fun c o c1 c2 d1 d2 d3 d4 x => hs5.extBut _ _ c1 (hp _ _ d4 (hq3.extBut _ _ c2 (hp3.extBut _ _ d3 (hq2.extBut _ _ c2 (hp2.extBut _ _ d2 (hq1.extBut _ _ c2 (hp1.extBut _ _ d1 (hs0.extBut _ _ c1 (x)))))))))) ⟨oe, hs5.extBut _ _ hez hoe, hce⟩
end
end MP
set_option maxHeartbeats 4000000
set_option autoImplicit false
namespace MP
open PySem PySem.Spec PyProof.Rows L2
open Sem (wp)
abbrev zp1 (h : Heap) (l1 : Addr) : Heap := h.push { cls := .type "list_iterator", data := .fields #[.ref l1, .int 0 0] }
abbrev zp2 (h : Heap) (l1 l2 : Addr) : Heap := zp1 (zp1 h l1) l2
abbrev zp3 (h : Heap) (l1 l2 l3 : Addr) : Heap := zp1 (zp2 h l1 l2) l3
abbrev zp4 (h : Heap) (l1 l2 l3 l4 : Addr) : Heap := zp1 (zp3 h l1 l2 l3) l4
abbrev zpI (h : Heap) (l1 l2 l3 l4 : Addr) : Heap := (zp4 h l1 l2 l3 l4).push { cls := .type "tuple", data := .seq #[.ref h.objs.size, .ref (zp1 h l1).objs.size, .ref (zp2 h l1 l2).objs.size, .ref (zp3 h l1 l2 l3).objs.size] }
abbrev zpO (h : Heap) (l1 l2 l3 l4 : Addr) : Heap := (zpI h l1 l2 l3 l4).push { cls := .type "tuple", data := .seq #[.none, .none, .none, .none] }
abbrev zpZ (h : Heap) (l1 l2 l3 l4 : Addr) : Heap := (zpO h l1 l2 l3 l4).push { cls := .type "zip", data := .fields #[.none, .bool false, .bool false, .ref (zp4 h l1 l2 l3 l4).objs.size, .ref (zpI h l1 l2 l3 l4).objs.size] }
theorem meets_zip4 (l1 l2 l3 l4 : Addr) (xs1 xs2 xs3 xs4 : Array Value) :
    Meets (Builtin.«zip.__new__» ⟨[.type "zip", .ref l1, .ref l2, .ref l3, .ref l4], []⟩) (fun _ R s => s.heap.IsList l1 xs1 ∧ s.heap.IsList l2 xs2 ∧ s.heap.IsList l3 xs3 ∧ s.heap.IsList l4 xs4 ∧
      R (.ok (.ret (.ref (zpO s.heap l1 l2 l3 l4).objs.size))) { s with heap := zpZ s.heap l1 l2 l3 l4 }) :=
  .of_wp fun prog w A R s h => by
    obtain ⟨hp, g, d, tk, os⟩ := s; obtain ⟨hl1, hl2, hl3, hl4, h⟩ := h
    have hsub := sub_zip
    have hL1 : Heap.IsList (Shared.heap ⟨hp, g, d, tk, os⟩) l1 xs1 := hl1
    have hL2 : Heap.IsList (Shared.heap ⟨zp1 hp l1, g, d, tk, os⟩) l2 xs2 := Heap.IsList.push hl2 _
    have hL3 : Heap.IsList (Shared.heap ⟨zp2 hp l1 l2, g, d, tk, os⟩) l3 xs3 := Heap.IsList.push (Heap.IsList.push hl3 _) _
    have hL4 : Heap.IsList (Shared.heap ⟨zp3 hp l1 l2 l3, g, d, tk, os⟩) l4 xs4 := Heap.IsList.push (Heap.IsList.push (Heap.IsList.push hl4 _) _) _
    wp_walk using wpAny_pyIter_list hL1, wpAny_pyIter_list hL2, wpAny_pyIter_list hL3, wpAny_pyIter_list hL4
    exact ⟨_, rfl, h⟩
section
variable {prog : Program} {w : World} {A : Around} {E : Value → Shared → Prop} {s : Shared}
structure Zip4 (h : Heap) (n l1 l2 l3 l4 k : Nat) : Prop where
  z : IsZip h (n + 6) (n + 4) (n + 5) .none
  i : IsQ h (n + 4) (.ref n) (.ref (n + 1)) (.ref (n + 2)) (.ref (n + 3))
  o : ∃ a b c d, IsQ h (n + 5) a b c d
  h1 : h.IsListIter n l1 k
  h2 : h.IsListIter (n + 1) l2 k
  h3 : h.IsListIter (n + 2) l3 k
  h4 : h.IsListIter (n + 3) l4 k
theorem call_zip4 {l1 l2 l3 l4 : Addr} {xs1 xs2 xs3 xs4 : Array Value} {Q : Value → Shared → Prop} (hl1 : s.heap.IsList l1 xs1) (hl2 : s.heap.IsList l2 xs2) (hl3 : s.heap.IsList l3 xs3) (hl4 : s.heap.IsList l4 xs4)
    (h : ∀ h', Zip4 h' s.heap.objs.size l1 l2 l3 l4 0 → (∀ c o, s.heap.get? c = some o → h'.get? c = some o) → Q (.ref (s.heap.objs.size + 6)) { s with heap := h' }) :
    wpAny (model prog w) A (call (.type "zip") [.ref l1, .ref l2, .ref l3, .ref l4]) Q E s := by
  refine callType_new F.called_zip (by decide) (typeCall_zip_4 _ _ _ _) (newCall_zip_4 _ _ _ _) (fun obj => args_object_init_5 obj _ _ _ _) F.entry_zip_new
    (meets_zip4 l1 l2 l3 l4 xs1 xs2 xs3 xs4) ⟨hl1, hl2, hl3, hl4, ?_⟩
  have z1 : (zp1 s.heap l1).objs.size = s.heap.objs.size + 1 := Heap.size_push ..
  have z2 : (zp2 s.heap l1 l2).objs.size = s.heap.objs.size + 2 := by rw [Heap.size_push, z1]
  have z3 : (zp3 s.heap l1 l2 l3).objs.size = s.heap.objs.size + 3 := by rw [Heap.size_push, z2]
  have z4 : (zp4 s.heap l1 l2 l3 l4).objs.size = s.heap.objs.size + 4 := by rw [Heap.size_push, z3]
  have z5 : (zpI s.heap l1 l2 l3 l4).objs.size = s.heap.objs.size + 5 := by rw [Heap.size_push, z4]
  have z6 : (zpO s.heap l1 l2 l3 l4).objs.size = s.heap.objs.size + 6 := by rw [Heap.size_push, z5]
  have g7 : (zpZ s.heap l1 l2 l3 l4).get? (zpO s.heap l1 l2 l3 l4).objs.size = some _ := Heap.get?_push_size _ rfl
  have g6 : (zpZ s.heap l1 l2 l3 l4).get? (zpI s.heap l1 l2 l3 l4).objs.size = some _ := Heap.get?_push_of_some _ (Heap.get?_push_size _ rfl)
  have g5 : (zpZ s.heap l1 l2 l3 l4).get? (zp4 s.heap l1 l2 l3 l4).objs.size = some _ := Heap.get?_push_of_some _ (Heap.get?_push_of_some _ (Heap.get?_push_size _ rfl))
  have g4 : (zpZ s.heap l1 l2 l3 l4).get? (zp3 s.heap l1 l2 l3).objs.size = some _ := Heap.get?_push_of_some _ (Heap.get?_push_of_some _ (Heap.get?_push_of_some _ (Heap.get?_push_size _ rfl)))
  have g3 : (zpZ s.heap l1 l2 l3 l4).get? (zp2 s.heap l1 l2).objs.size = some _ := Heap.get?_push_of_some _ (Heap.get?_push_of_some _ (Heap.get?_push_of_some _ (Heap.get?_push_of_some _ (Heap.get?_push_size _ rfl))))
  have g2 : (zpZ s.heap l1 l2 l3 l4).get? (zp1 s.heap l1).objs.size = some _ := Heap.get?_push_of_some _ (Heap.get?_push_of_some _ (Heap.get?_push_of_some _ (Heap.get?_push_of_some _ (Heap.get?_push_of_some _ (Heap.get?_push_size _ rfl)))))
  have g1 : (zpZ s.heap l1 l2 l3 l4).get? s.heap.objs.size = some _ := Heap.get?_push_of_some _ (Heap.get?_push_of_some _ (Heap.get?_push_of_some _ (Heap.get?_push_of_some _ (Heap.get?_push_of_some _ (Heap.get?_push_of_some _ (Heap.get?_push_size _ rfl))))))
  show _ ∧ _
  rw [z6, z4, z5] at g7
  rw [z5] at g6
  rw [z4, z1, z2, z3] at g5
  rw [z3] at g4
  rw [z2] at g3
  rw [z1] at g2
  rw [z6]
  exact ⟨⟨_, g7, rfl⟩, h _ ⟨g7, g5, ⟨_, _, _, _, g6⟩, ⟨_, g1, rfl, rfl⟩, ⟨_, g2, rfl, rfl⟩, ⟨_, g3, rfl, rfl⟩, ⟨_, g4, rfl, rfl⟩⟩ fun c o x =>
    Heap.get?_push_of_some _ (Heap.get?_push_of_some _ (Heap.get?_push_of_some _ (Heap.get?_push_of_some _ (Heap.get?_push_of_some _ (Heap.get?_push_of_some _ (Heap.get?_push_of_some _ x))))))⟩
abbrev fp4 (n : Nat) : List Addr := [n + 6, n + 4, n + 5, n, n + 1, n + 2, n + 3]
theorem next_zip4 {n k l1 l2 l3 l4 : Nat} {xs1 xs2 xs3 xs4 : Array Value} {x1 x2 x3 x4 : Value} {Q : Option Value → Shared → Prop} (b1 : l1 < n) (b2 : l2 < n) (b3 : l3 < n) (b4 : l4 < n) (st : Zip4 s.heap n l1 l2 l3 l4 k)
    (hl1 : s.heap.IsList l1 xs1) (hl2 : s.heap.IsList l2 xs2) (hl3 : s.heap.IsList l3 xs3) (hl4 : s.heap.IsList l4 xs4) (hx1 : xs1[k]? = some x1) (hx2 : xs2[k]? = some x2) (hx3 : xs3[k]? = some x3) (hx4 : xs4[k]? = some x4)
    (hQ : ∀ h', IsZip h' (n + 6) (n + 4) (n + 5) (rawInt s.heap.objs.size) → IsQ h' (n + 5) x1 x2 x3 x4 → h'.IsListIter n l1 (k + 1) → h'.IsListIter (n + 1) l2 (k + 1) → h'.IsListIter (n + 2) l3 (k + 1) → h'.IsListIter (n + 3) l4 (k + 1) →
      IsQ h' s.heap.objs.size x1 x2 x3 x4 → h'.objs.size = s.heap.objs.size + 1 → (∀ c o, c ≠ n + 6 → c ≠ n + 5 → c ≠ n → c ≠ n + 1 → c ≠ n + 2 → c ≠ n + 3 → s.heap.get? c = some o → h'.get? c = some o) → Q (some (.ref s.heap.objs.size)) { s with heap := h' }) :
    wpAny (model prog w) A (pyNext (.ref (n + 6))) Q E s := by
  have hT : s.TypeIs (.ref (n + 6)) "zip" := ⟨_, st.z, rfl⟩
  obtain ⟨a, b, c, d, ho⟩ := st.o
  unfold pyNext
  exact wpAny_bind (wpAny_attempt (wpAny_callSpecial?_slot (name := Str.ofString "__next__") hT F.slot_zip_next
    (wpAny_call_entry F.slot_zip_next hT F.entry_zip_next
      (zip4_item b1 b2 b3 b4 st.z st.i ho st.h1 st.h2 st.h3 st.h4 hl1 hl2 hl3 hl4 hx1 hx2 hx3 hx4 fun h' a1 a2 a3 a4 a5 a6 a7 a8 a9 => wpAny_pure (hQ h' a1 a2 a3 a4 a5 a6 a7 a8 a9)) (F.args_zip_next_1 _))))
theorem end_zip4 {n k l1 l2 l3 l4 : Nat} {xs1 xs2 xs3 xs4 : Array Value} {Q : Option Value → Shared → Prop} (hh : A.handled = none) (b1 : l1 < n) (b2 : l2 < n) (b3 : l3 < n) (b4 : l4 < n) (st : Zip4 s.heap n l1 l2 l3 l4 k)
    (hl1 : s.heap.IsList l1 xs1) (hl2 : s.heap.IsList l2 xs2) (hl3 : s.heap.IsList l3 xs3) (hl4 : s.heap.IsList l4 xs4) (hend : xs1[k]? = none ∨ xs2[k]? = none ∨ xs3[k]? = none ∨ xs4[k]? = none)
    (hQ : ∀ h', (∀ c o, c ≠ n + 6 → c ≠ n + 5 → c ≠ n → c ≠ n + 1 → c ≠ n + 2 → c ≠ n + 3 → s.heap.get? c = some o → h'.get? c = some o) → Q none { s with heap := h' }) :
    wpAny (model prog w) A (pyNext (.ref (n + 6))) Q E s := by
  have hT : s.TypeIs (.ref (n + 6)) "zip" := ⟨_, st.z, rfl⟩
  obtain ⟨a, b, c, d, ho⟩ := st.o
  unfold pyNext
  refine wpAny_bind (wpAny_attempt (wpAny_callSpecial?_slot (name := Str.ofString "__next__") hT F.slot_zip_next
    (wpAny_call_entry F.slot_zip_next hT F.entry_zip_next (zip4_end hh b1 b2 b3 b4 st.z st.i ho st.h1 st.h2 st.h3 st.h4 hl1 hl2 hl3 hl4 hend fun h' e hk he => ?_) (F.args_zip_next_1 _))))
  obtain ⟨o, ho, hc⟩ := he
  refine wpAny_bind (wpAny_isInstance (T := "StopIteration") (b := true) ⟨o, ho, hc⟩ isSubtype_stop ?_)
  exact wpAny_pure (hQ _ hk)
end
def Itz4 (K : PySem.W.Frag) (a b c d : Addr) : L2.It :=
  ⟨fun i H => ∃ (xs1 xs2 xs3 xs4 : List V) (x1 x2 x3 x4 : V), SqL K H a xs1 ∧ SqL K H b xs2 ∧ SqL K H c xs3 ∧ SqL K H d xs4 ∧ xs1[i]? = some x1 ∧ xs2[i]? = some x2 ∧ xs3[i]? = some x3 ∧ xs4[i]? = some x4,
    fun i H v H' => ∃ T x1 x2 x3 x4, v = .ref T ∧ H T = none ∧ H' = upd H T (.tup [x1, x2, x3, x4]) ∧ (∀ xs, SqL K H a xs → xs[i]? = some x1) ∧ (∀ xs, SqL K H b xs → xs[i]? = some x2) ∧ (∀ xs, SqL K H c xs → xs[i]? = some x3) ∧ ∀ xs, SqL K H d xs → xs[i]? = some x4,
    fun i H => ∃ xs1 xs2 xs3 xs4 : List V, SqL K H a xs1 ∧ SqL K H b xs2 ∧ SqL K H c xs3 ∧ SqL K H d xs4 ∧ (xs1.length ≤ i ∨ xs2.length ≤ i ∨ xs3.length ≤ i ∨ xs4.length ≤ i)⟩
theorem fp4_cases {n c : Nat} (h : c ∈ fp4 n) : c = n + 6 ∨ c = n + 4 ∨ c = n + 5 ∨ c = n ∨ c = n + 1 ∨ c = n + 2 ∨ c = n + 3 := by
  simpa [fp4] using h
theorem lt4 {n c m : Nat} (h : c ∈ fp4 n) (hz : n + 6 < m) : c < m := by
  rcases fp4_cases h with q | q | q | q | q | q | q <;> omega
theorem le4 {n c : Nat} (h : c ∈ fp4 n) : n ≤ c := by
  rcases fp4_cases h with q | q | q | q | q | q | q <;> omega
theorem nmem4 {n c : Nat} (h : c ∉ fp4 n) : c ≠ n + 6 ∧ c ≠ n + 5 ∧ c ≠ n ∧ c ≠ n + 1 ∧ c ≠ n + 2 ∧ c ≠ n + 3 := by
  simp [fp4] at h
  omega
theorem turn_zip4 {P : Program} {w : World} {K : PySem.W.Frag} {elts : List Expr} {kk : Nat} {tpos : Pos} {n a b c d : Nat} (b1 : a < n) (b2 : b < n) (b3 : c < n) (b4 : d < n) :
    Turn P w K (.Tuple elts kk tpos) (Itz4 K a b c d) (fp4 n) (n + 6) (fun i h => Zip4 h n a b c d i) where
  mem := by simp [fp4]
  obj := fun i h st e he => by
    obtain ⟨w1, w2, w3, w4, ho⟩ := st.o
    obtain ⟨o1, e1, _, d1⟩ := st.h1
    obtain ⟨o2, e2, _, d2⟩ := st.h2
    obtain ⟨o3, e3, _, d3⟩ := st.h3
    obtain ⟨o4, e4, _, d4⟩ := st.h4
    rcases fp4_cases he with q | q | q | q | q | q | q
    · rw [q]; exact ⟨_, st.z, fun v q => nomatch q⟩
    · rw [q]; exact ⟨_, st.i, fun v q => nomatch q⟩
    · rw [q]; exact ⟨_, ho, fun v q => nomatch q⟩
    · rw [q]; exact ⟨o1, e1, fun v q => by rw [d1] at q; cases q⟩
    · rw [q]; exact ⟨o2, e2, fun v q => by rw [d2] at q; cases q⟩
    · rw [q]; exact ⟨o3, e3, fun v q => by rw [d3] at q; cases q⟩
    · rw [q]; exact ⟨o4, e4, fun v q => by rw [d4] at q; cases q⟩
  keep := fun i h h' st k => by
    obtain ⟨w1, w2, w3, w4, ho⟩ := st.o
    exact ⟨k _ (by simp [fp4]) _ st.z, k _ (by simp [fp4]) _ st.i, ⟨w1, w2, w3, w4, k _ (by simp [fp4]) _ ho⟩, st.h1.at fun o q => k _ (by simp [fp4]) o q, st.h2.at fun o q => k _ (by simp [fp4]) o q, st.h3.at fun o q => k _ (by simp [fp4]) o q, st.h4.at fun o q => k _ (by simp [fp4]) o q⟩
  item := by
    intro X hP hw hK hc i pins s σ H E I hf st hg
    subst hP hw hK
    obtain ⟨xs1, xs2, xs3, xs4, x1, x2, x3, x4, q1, q2, q3, q4, hx1, hx2, hx3, hx4⟩ := hg
    obtain ⟨t1, r1, p1, _⟩ := I.list q1
    obtain ⟨t2, r2, p2, _⟩ := I.list q2
    obtain ⟨t3, r3, p3, _⟩ := I.list q3
    obtain ⟨t4, r4, p4, _⟩ := I.list q4
    obtain ⟨u1, hu1, ru1⟩ := r1.get hx1
    obtain ⟨u2, hu2, ru2⟩ := r2.get hx2
    obtain ⟨u3, hu3, ru3⟩ := r3.get hx3
    obtain ⟨u4, hu4, ru4⟩ := r4.get hx4
    have hzl : n + 6 < s.heap.objs.size := Heap.lt_size st.z
    refine next_zip4 b1 b2 b3 b4 st p1.isList p2.isList p3.isList p4.isList (x1 := u1) (x2 := u2) (x3 := u3) (x4 := u4) (by simpa using hu1) (by simpa using hu2) (by simpa using hu3) (by simpa using hu4) fun h' z' TO' h1' h2' h3' h4' hT hsz hk => ?_
    refine ⟨_, rfl, wpAny_letOwnedTupleGo_zip (s := { s with heap := h' }) z' fun h'' z'' sb => ?_⟩
    have hT2 : h''.get? s.heap.objs.size = some { cls := .type "tuple", data := .seq #[u1, u2, u3, u4] } := (sb.2 _ (Nat.ne_of_gt hzl)).trans hT
    have new : ObjOk X.prog X.w (upd H s.heap.objs.size (.tup [x1, x2, x3, x4])) h'' s.heap.objs.size (.tup [x1, x2, x3, x4]) :=
      ⟨by show 4 ≤ sizeLine; decide, [u1, u2, u3, u4], .cons ru1 (.cons ru2 (.cons ru3 (.cons ru4 .nil))), ⟨_, hT2, rfl, _, rfl⟩⟩
    have I1 : Inv X pins σ (upd H s.heap.objs.size (.tup [x1, x2, x3, x4])) { s with heap := h'' } :=
      I.turnedNew (t' := s.toks) (ch := fp4 n) (fun e o hb q => by
        obtain ⟨m1, m2, m3, m4, m5, m6⟩ := nmem4 hb
        exact (sb.2 e (nq m1)).trans (hk e o (nq m1) (nq m2) (nq m3) (nq m4) (nq m5) (nq m6) q)) hf (Nat.le_refl _) new
    refine ⟨.ref s.heap.objs.size, _, I1, rfl, ⟨_, x1, x2, x3, x4, rfl, I.hok.fresh (Nat.le_refl _), rfl, fun l hl => by rw [I.list_inj hl q1]; exact hx1, fun l hl => by rw [I.list_inj hl q2]; exact hx2, fun l hl => by rw [I.list_inj hl q3]; exact hx3, fun l hl => by rw [I.list_inj hl q4]; exact hx4⟩, ⟨z'', ?_, ⟨u1, u2, u3, u4, ?_⟩, ?_, ?_, ?_, ?_⟩, fun e hem => ?_⟩
    · exact (sb.2 _ (nq (by omega))).trans (hk _ _ (nq (by omega)) (nq (by omega)) (nq (by omega)) (nq (by omega)) (nq (by omega)) (nq (by omega)) st.i)
    · exact (sb.2 _ (nq (by omega))).trans TO'
    · exact h1'.at fun o q => (sb.2 _ (nq (by omega))).trans q
    · exact h2'.at fun o q => (sb.2 _ (nq (by omega))).trans q
    · exact h3'.at fun o q => (sb.2 _ (nq (by omega))).trans q
    · exact h4'.at fun o q => (sb.2 _ (nq (by omega))).trans q
    · have hlt : (e : Nat) < s.heap.objs.size := lt4 hem hzl
      rw [upd_ne (nq (Nat.ne_of_lt hlt))]
      exact (hf e hem).1
  done := by
    intro X hP hw hK hc i pins s σ H E I hf st hg
    subst hP hw hK
    obtain ⟨xs1, xs2, xs3, xs4, q1, q2, q3, q4, hend⟩ := hg
    obtain ⟨t1, r1, p1, _⟩ := I.list q1
    obtain ⟨t2, r2, p2, _⟩ := I.list q2
    obtain ⟨t3, r3, p3, _⟩ := I.list q3
    obtain ⟨t4, r4, p4, _⟩ := I.list q4
    have e1 := r1.length
    have e2 := r2.length
    have e3 := r3.length
    have e4 := r4.length
    have he : t1.toArray[i]? = none ∨ t2.toArray[i]? = none ∨ t3.toArray[i]? = none ∨ t4.toArray[i]? = none := by
      rcases hend with q | q | q | q
      · exact .inl (by simp; omega)
      · exact .inr (.inl (by simp; omega))
      · exact .inr (.inr (.inl (by simp; omega)))
      · exact .inr (.inr (.inr (by simp; omega)))
    exact end_zip4 (I.ok.hd hc) b1 b2 b3 b4 st p1.isList p2.isList p3.isList p4.isList he fun h' hk => ⟨rfl, I.turnedL (t' := s.toks) (ch := fp4 n) (fun e o hb q => by
      obtain ⟨m1, m2, m3, m4, m5, m6⟩ := nmem4 hb
      exact hk e o (nq m1) (nq m2) (nq m3) (nq m4) (nq m5) (nq m6) q) hf⟩
  self := fun A i s Q E st h => wpAny_pyIter_zip st.z h
def iZip4 (K : PySem.W.Frag) (ta : TA) : TI := fun σ H R => ta σ H fun vs H1 => ∃ a b c d xs1 xs2 xs3 xs4, vs = [.ref a, .ref b, .ref c, .ref d] ∧ SqL K H1 a xs1 ∧ SqL K H1 b xs2 ∧ SqL K H1 c xs3 ∧ SqL K H1 d xs4 ∧ R (Itz4 K a b c d) H1
theorem pi_zip4 {X : Cx} {e : Expr} {es : List Expr} {ta : TA} {p pos tpos : Pos} {elts : List Expr} {kk : Nat} (hg : Gl X "zip") (hm : X.mg "zip" = none) (ha : PA X (e :: es) ta)
    (hs : starEach (e :: es) X.env = (false, eval e X.env) :: starEach es X.env) (hpl : (backTo pos (starEach es X.env)).any (·.1) = false) :
    PI X (.Tuple elts kk tpos) (.Call (.Name "zip" p) (e :: es) [] pos) (iZip4 X.K ta) := by
  refine ⟨fun pins s σ H R I h => ?_⟩
  refine Call_ (ld_blt I hg hm PyProof.Rows.boot_zip (PyProof.Rows.callWith_type1 (thn (ha.run pos pins s σ H _ I h) fun us s1 ⟨vs, H1, I1, r1, q1⟩ => ?_) hs hpl))
  obtain ⟨a, b, c, d, xs1, xs2, xs3, xs4, ex, q1, q2, q3, q4, q⟩ := q1
  subst ex
  cases r1 with
  | cons r rr =>
    cases rr with
    | cons r' rr =>
      cases rr with
      | cons r'' rr =>
        cases rr with
        | cons r''' rr =>
          cases rr
          cases r
          cases r'
          cases r''
          cases r'''
          obtain ⟨t1, v1, p1, _⟩ := I1.list q1
          obtain ⟨t2, v2, p2, _⟩ := I1.list q2
          obtain ⟨t3, v3, p3, _⟩ := I1.list q3
          obtain ⟨t4, v4, p4, _⟩ := I1.list q4
          refine call_zip4 p1.isList p2.isList p3.isList p4.isList fun h' st hk => wpAny_pyIter_zip st.z ?_
          have I2 : Inv X pins σ H1 { s1 with heap := h' } := I1.kept (t' := s1.toks) hk
          refine ⟨s1.heap.objs.size + 6, fp4 s1.heap.objs.size, _, _, H1, rfl, I2, turn_zip4 p1.lt p2.lt p3.lt p4.lt, st, fun e hem => ?_, q⟩
          have hle : s1.heap.objs.size ≤ (e : Nat) := le4 hem
          exact I1.fpOk hle (I1.hok.fresh hle)
theorem zip4L_get : ∀ {l1 l2 l3 l4 : List Val} {i : Nat} {x : Val}, (zip4L l1 l2 l3 l4)[i]? = some x → ∃ a b c d, l1[i]? = some a ∧ l2[i]? = some b ∧ l3[i]? = some c ∧ l4[i]? = some d ∧ x = .tup [a, b, c, d]
  | a :: l1, b :: l2, c :: l3, d :: l4, 0, x, h => by
    simp [zip4L] at h
    exact ⟨a, b, c, d, rfl, rfl, rfl, rfl, h.symm⟩
  | a :: l1, b :: l2, c :: l3, d :: l4, i + 1, x, h => by
    simp only [zip4L, List.getElem?_cons_succ] at h
    obtain ⟨a', b', c', d', h1, h2, h3, h4, h5⟩ := zip4L_get h
    exact ⟨a', b', c', d', by simpa using h1, by simpa using h2, by simpa using h3, by simpa using h4, h5⟩
  | [], _, _, _, _, _, h => by simp [zip4L] at h
  | _ :: _, [], _, _, _, _, h => by simp [zip4L] at h
  | _ :: _, _ :: _, [], _, _, _, h => by simp [zip4L] at h
  | _ :: _, _ :: _, _ :: _, [], _, _, h => by simp [zip4L] at h
theorem zip4L_end : ∀ {l1 l2 l3 l4 : List Val} {i : Nat}, (zip4L l1 l2 l3 l4).length ≤ i → l1.length ≤ i ∨ l2.length ≤ i ∨ l3.length ≤ i ∨ l4.length ≤ i
  | a :: l1, b :: l2, c :: l3, d :: l4, 0, h => by simp [zip4L] at h
  | a :: l1, b :: l2, c :: l3, d :: l4, i + 1, h => by
    simp only [zip4L, List.length_cons, Nat.add_le_add_iff_right] at h ⊢
    exact zip4L_end h
  | [], _, _, _, _, _ => .inl (Nat.zero_le _)
  | _ :: _, [], _, _, _, _ => .inr (.inl (Nat.zero_le _))
  | _ :: _, _ :: _, [], _, _, _ => .inr (.inr (.inl (Nat.zero_le _)))
  | _ :: _, _ :: _, _ :: _, [], _, _ => .inr (.inr (.inr (Nat.zero_le _)))
theorem zip4L_len : ∀ {l1 l2 l3 l4 : List Val}, (zip4L l1 l2 l3 l4).length ≤ l1.length
  | a :: l1, b :: l2, c :: l3, d :: l4 => by
    simp only [zip4L, List.length_cons, Nat.add_le_add_iff_right]
    exact zip4L_len
  | [], _, _, _ => by simp [zip4L]
  | _ :: _, [], _, _ => by simp [zip4L]
  | _ :: _, _ :: _, [], _ => by simp [zip4L]
  | _ :: _, _ :: _, _ :: _, [] => by simp [zip4L]
theorem step_zip4 {K : KC} {H : Hp} {M ρ : List Addr} {a b c d : Addr} {l1 l2 l3 l4 : List Val} (r1 : RepR K H M ρ (.ref a) (.lst l1)) (r2 : RepR K H M ρ (.ref b) (.lst l2)) (r3 : RepR K H M ρ (.ref c) (.lst l3)) (r4 : RepR K H M ρ (.ref d) (.lst l4)) (al : ∀ a, a ∈ M → ∃ o, H a = some o) :
    Step K (Itz4 K.k a b c d) (zip4L l1 l2 l3 l4) H M ρ := by
  obtain ⟨a', V1, e, h1, g1⟩ := r1.lst_
  cases e
  obtain ⟨b', V2, e, h2, g2⟩ := r2.lst_
  cases e
  obtain ⟨c', V3, e, h3, g3⟩ := r3.lst_
  cases e
  obtain ⟨d', V4, e, h4, g4⟩ := r4.lst_
  cases e
  refine fun i => ⟨fun hi => ⟨V1, V2, V3, V4, h1, h2, h3, h4, ?_⟩, fun x hx => ?_⟩
  · rw [g1.length, g2.length, g3.length, g4.length]
    exact zip4L_end hi
  · obtain ⟨x1, x2, x3, x4, q1, q2, q3, q4, rfl⟩ := zip4L_get hx
    obtain ⟨z1, hz1, rz1⟩ := g1.get q1
    obtain ⟨z2, hz2, rz2⟩ := g2.get q2
    obtain ⟨z3, hz3, rz3⟩ := g3.get q3
    obtain ⟨z4, hz4, rz4⟩ := g4.get q4
    refine ⟨⟨V1, V2, V3, V4, z1, z2, z3, z4, h1, h2, h3, h4, hz1, hz2, hz3, hz4⟩, fun w H' q => ?_⟩
    obtain ⟨T, y1, y2, y3, y4, rfl, hT, rfl, p1, p2, p3, p4⟩ := q
    have e1 := p1 V1 h1
    rw [hz1] at e1; cases e1
    have e2 := p2 V2 h2
    rw [hz2] at e2; cases e2
    have e3 := p3 V3 h3
    rw [hz3] at e3; cases e3
    have e4 := p4 V4 h4
    rw [hz4] at e4; cases e4
    exact new_tup hT al (.cons rz1 (.cons rz2 (.cons rz3 (.cons rz4 .nil))))
section
variable {X : Cx} {ck : List (List Ky)} {W : WX} {T : Nat → Fn} {b : Bool}
theorem i_zip4 {e e' e2 e3 : E} {ee ee' ee2 ee3 : Expr} {elts : List Expr} {kk : Nat} {tpos p0 pos : Pos} (hg : Gl X "zip") (hm : X.mg "zip" = none) (he : PE X ee (tE (kc X ck) W T b e)) (he' : PE X ee' (tE (kc X ck) W T b e')) (he2 : PE X ee2 (tE (kc X ck) W T b e2)) (he3 : PE X ee3 (tE (kc X ck) W T b e3))
    (s1 : starEach [ee, ee', ee2, ee3] X.env = (false, eval ee X.env) :: starEach [ee', ee2, ee3] X.env) (s2 : starEach [ee', ee2, ee3] X.env = (false, eval ee' X.env) :: starEach [ee2, ee3] X.env) (s3 : starEach [ee2, ee3] X.env = (false, eval ee2 X.env) :: starEach [ee3] X.env) (s4 : starEach [ee3] X.env = [(false, eval ee3 X.env)]) :
    PI X (.Tuple elts kk tpos) (.Call (.Name "zip" p0) [ee, ee', ee2, ee3] [] pos) (tIt (kc X ck) W T b (.zip4 e e' e2 e3)) := by
  refine PI.imp (pi_zip4 hg hm (pa_cons he (pa_cons he' (pa_cons he2 (pa_cons he3 pa_nil s4) s3) s2) s1) s1 (by rw [s2, s3, s4]; rfl)) fun pins s σ H R I ⟨H0, ρ0, B, O, ρ, η, h, S, p⟩ => ?_
  refine ⟨H0, ρ0, B, O, ρ, η, h, S, p.bind fun z v ρ1 H1 h1 g1 m1 r1 p1 => ?_⟩
  refine ⟨H0, ρ0, B, O, ρ1, η, h1, S.grow g1 m1, p1.bind fun y w ρ2 H2 h2 g2 m2 r2 p2 => ?_⟩
  refine ⟨H0, ρ0, B, O, ρ2, η, h2, (S.grow g1 m1).grow g2 m2, p2.bind fun y2 v2 ρ3 H3 h3 g3 m3 r3 p3 => ?_⟩
  refine ⟨H0, ρ0, B, O, ρ3, η, h3, ((S.grow g1 m1).grow g2 m2).grow g3 m3, p3.bind fun y3 v3 ρ4 H4 h4 g4 m4 r4 p4 => ?_⟩
  obtain ⟨l, rfl⟩ : ∃ l, v = .lst l := by
    cases v <;> first | exact ⟨_, rfl⟩ | exact (show False from p4).elim
  obtain ⟨m, rfl⟩ : ∃ l, w = .lst l := by
    cases w <;> first | exact ⟨_, rfl⟩ | exact (show False from p4).elim
  obtain ⟨l2, rfl⟩ : ∃ l, v2 = .lst l := by
    cases v2 <;> first | exact ⟨_, rfl⟩ | exact (show False from p4).elim
  obtain ⟨l3, rfl⟩ : ∃ l, v3 = .lst l := by
    cases v3 <;> first | exact ⟨_, rfl⟩ | exact (show False from p4).elim
  have p5 : Pst (kc X ck) W σ O ρ4 H4 (fun H' ρ' J xs => Walk (kc X ck) b H' O ρ' J xs ∧ xs.length ≤ sz) R (if l.length ≤ sz then Res.ok (zip4L l m l2 l3) h4 else .bad) := p4
  have q1 := ((r1.grow g2).grow g3).grow g4
  have q2 := (r2.grow g3).grow g4
  have q3 := r3.grow g4
  obtain ⟨a, V1, rfl, t1, u1⟩ := q1.lst_
  obtain ⟨b', V2, rfl, t2, u2⟩ := q2.lst_
  obtain ⟨c, V3, rfl, t3, u3⟩ := q3.lst_
  obtain ⟨d, V4, rfl, t4, u4⟩ := r4.lst_
  split at p5
  · rename_i hz
    refine ⟨a, b', c, d, V1, V2, V3, V4, rfl, t1, t2, t3, t4, Pst.ok p5 m4 ⟨fun H' M' ρ' o => step_zip4 (q1.on o) (q2.on o) (q3.on o) (r4.on o) o.2.2.2, ?_⟩⟩
    exact Nat.le_trans zip4L_len hz
  · exact p5.elim
end
end MP
set_option maxHeartbeats 4000000
set_option autoImplicit false
namespace MP
open PySem PySem.Spec PyProof.Rows L2
structure GI where
  fns : List (PySem.Str × Nat)
  gl : List (PySem.Str × Val)
  math : Bool
structure CI where
  g : GI
  N : List PySem.Str
  sc : Scope
  fn : PySem.Str → Bool
  lvl : Nat
mutual
def veq : Val → Val → Bool
  | .non, .non => true
  | .bl a, .bl b => a == b
  | .int a, .int b => decide (a = b)
  | .str a, .str b => decide (a = b)
  | .tup a, .tup b => veqs a b
  | .lst a, .lst b => veqs a b
  | _, _ => false
def veqs : List Val → List Val → Bool
  | [], [] => true
  | a :: as, b :: bs => veq a b && veqs as bs
  | _, _ => false
end
mutual
theorem veq_ok : ∀ {a b : Val}, veq a b = true → a = b := by
  intro a b h
  cases a <;> cases b <;> simp only [veq, beq_iff_eq, decide_eq_true_eq, reduceCtorEq, Bool.false_eq_true] at h <;> first | rfl | (subst h; rfl) | (rw [veqs_ok h])
theorem veqs_ok : ∀ {a b : List Val}, veqs a b = true → a = b
  | [], [], _ => rfl
  | [], _ :: _, h => by simp [veqs] at h
  | _ :: _, [], h => by simp [veqs] at h
  | a :: as, b :: bs, h => by
    simp only [veqs, Bool.and_eq_true] at h
    rw [veq_ok h.1, veqs_ok h.2]
end
def visB (sc : Scope) (x : PySem.Str) : Bool := match sc.names.lookup x with
  | some .local => true
  | some .cell => true
  | some .free => true
  | _ => false
def nmB (x : PySem.Str) : Bool := !(x == ("__debug__" : PySem.Str)) && !(x == ("__classdict__" : PySem.Str)) && !(x == ("__name__" : PySem.Str))
def glB (sc : Scope) (x : PySem.Str) : Bool := match sc.names.lookup x with
  | some .globalImplicit => true
  | _ => false
def stB (Γ : CI) (x : PySem.Str) : Bool := match Γ.sc.names.lookup x with
  | some .local => true
  | some .cell => Γ.fn x
  | _ => false
def conB : Val → Const → Bool
  | .non, .none => true
  | .bl a, .bool b => a == b
  | .int i, .int j => decide (i = j)
  | .str s, .str x => decide (x = tx s) && s.all fun c => decide (c < 0x110000)
  | _, _ => false
def noSet : Expr → Bool
  | .Set .. => false
  | _ => true
def noStar : Expr → Bool
  | .Starred .. => false
  | _ => true
def noSlice : Expr → Bool
  | .Slice .. => false
  | _ => true
def bltNm : Blt → PySem.Str
  | .len => "len" | .abs => "abs" | .max2 => "max" | .min2 => "min" | .max1 => "max" | .min1 => "min" | .sum => "sum" | .all => "all" | .any => "any" | .toint => "int" | .tostr => "str" | .tuple => "tuple" | .list => "list" | .sorted => "sorted" | .gcd => "gcd" | .isqrt => "isqrt" | .repr => "repr"
def tyNm : Ty → PySem.Str
  | .bool => "bool" | .int => "int" | .str => "str" | .tuple => "tuple" | .list => "list"
def isLit : Expr → Bool
  | .Constant .. => true
  | .Name .. => true
  | _ => false
def CI.blk (Γ : CI) (scope : Scope) : CI := { Γ with sc := relS scope Γ.sc, fn := fun x => scope.names.lookup x == some .cell }
def ownN (N : List PySem.Str) : List Nat → Option (List (PySem.Str × Nat))
  | [] => some []
  | i :: is => match N[i]?, ownN N is with
    | some x, some r => some ((x, i) :: r)
    | _, _ => none
def chkTg (Γ : CI) : Tg → Expr → Bool
  | .name i, .Name x _ => decide (Γ.N[i]? = some x) && stB Γ x
  | .tup is, .Tuple es _ _ => chkNs is es
  | _, _ => false
where
  chkNs : List Nat → List Expr → Bool
    | [], [] => true
    | i :: is, .Name x _ :: es => decide (Γ.N[i]? = some x) && stB Γ x && chkNs is es
    | _, _ => false
def blt2 : Blt → Bool
  | .max2 => true | .min2 => true | .gcd => true
  | _ => false
def bltOk : Blt → Bool
  | .tostr => false | .sorted => false | .repr => false
  | _ => true
mutual
def chkE (Γ : CI) : E → Expr → Bool
  | .var i, ee => match ee with
    | .Name x _ => decide (Γ.N[i]? = some x) && visB Γ.sc x && nmB x
    | _ => false
  | .con v, ee => match ee with
    | .Constant c _ _ => conB v c
    | _ => false
  | .glob v, ee => match ee with
    | .Name x _ => (Γ.g.gl.any fun p => decide (p.1 = x) && veq p.2 v) && glB Γ.sc x && nmB x
    | _ => false
  | .bin op a b, ee => match ee with
    | .BinOp ea o eb _ => decide (o = bop op) && chkE Γ a ea && chkE Γ b eb
    | _ => false
  | .neg a, ee => match ee with
    | .UnaryOp .USub ea _ => chkE Γ a ea
    | _ => false
  | .cmp op a b, ee => match ee with
    | .Compare ea [o] [eb] _ => decide (o = cop op) && chkE Γ a ea && chkE Γ b eb && noSet eb
    | _ => false
  | .chain op op' a b c, ee => match ee with
    | .Compare ea [o, o'] [eb, ec] _ => decide (o = cop op) && decide (o' = cop op') && chkE Γ a ea && chkE Γ b eb && chkE Γ c ec && noSet ec
    | _ => false
  | .isN a, ee => match ee with
    | .Compare ea [.Is] [.Constant .none _ _] _ => chkE Γ a ea
    | _ => false
  | .notN a, ee => match ee with
    | .Compare ea [.IsNot] [.Constant .none _ _] _ => chkE Γ a ea
    | _ => false
  | .band a b, ee => match ee with
    | .BoolOp .And (ea :: eb :: []) _ => chkE Γ a ea && chkE Γ b eb
    | .BoolOp .And (ea :: eb :: ec :: r) pos => chkE Γ a ea && chkE Γ b (.BoolOp .And (eb :: ec :: r) pos)
    | _ => false
  | .bor a b, ee => match ee with
    | .BoolOp .Or (ea :: eb :: []) _ => chkE Γ a ea && chkE Γ b eb
    | .BoolOp .Or (ea :: eb :: ec :: r) pos => chkE Γ a ea && chkE Γ b (.BoolOp .Or (eb :: ec :: r) pos)
    | _ => false
  | .bnot a, ee => match ee with
    | .UnaryOp .Not ea _ => chkE Γ a ea
    | _ => false
  | .ife c a b, ee => match ee with
    | .IfExp ec ea eb _ => chkE Γ c ec && chkE Γ a ea && chkE Γ b eb
    | _ => false
  | .tup es, ee => match ee with
    | .Tuple ees _ _ => chkEs Γ true es ees
    | _ => false
  | .lst es, ee => match ee with
    | .List ees _ => chkEs Γ true es ees
    | _ => false
  | .newObj es, ee => match ee with
    | .List ees _ => chkEs Γ true es ees
    | _ => false
  | .sub a i, ee => match ee with
    | .Subscript ea ei _ => noSlice ei && chkE Γ a ea && chkE Γ i ei
    | _ => false
  | .sliceE a lo hi, ee => match ee with
    | .Subscript ea (.Slice l h none _) _ => chkE Γ a ea && chkO Γ lo l && chkO Γ hi h
    | _ => false
  | .rev a, ee => match ee with
    | .Subscript ea (.Slice none none (some (.UnaryOp .USub (.Constant (.int 1) _ _) _)) _) _ => chkE Γ a ea
    | _ => false
  | .call f es, ee => match ee with
    | .Call (.Name x _) (ea :: ees) [] _ => decide (f < Γ.lvl) && (match Γ.g.fns[f]? with | some (y, n) => decide (y = x) && decide ((ea :: ees).length = n) | none => false) && glB Γ.sc x && nmB x && chkEs Γ false es (ea :: ees)
    | _ => false
  | .blt bl es, ee => match ee with
    | .Call (.Name x _) (ea :: ees) [] _ => decide (x = bltNm bl) && bltOk bl && (match bl with | .gcd => Γ.g.math | .isqrt => Γ.g.math | _ => true) && glB Γ.sc x && nmB x && chkEs Γ false es (ea :: ees)
    | _ => false
  | .meth mm a es, ee => match mm, ee with
    | .join, .Call (.Attribute ea m apos) [ee] [] cpos => decide (m = ("join" : PySem.Str)) && (apos.endLine == cpos.line) && isLit ea && chkE Γ a ea && chkEs Γ false es [ee]
    | _, _ => false
  | .isinst a t, ee => match ee with
    | .Call (.Name x _) [ea, .Name y _] [] _ => decide (x = ("isinstance" : PySem.Str)) && glB Γ.sc x && decide (y = tyNm t) && glB Γ.sc y && nmB y && noStar ea && chkE Γ a ea
    | _ => false
  | .lrg t a, ee => match ee with
    | .Call (.Name x _) [.Call (.Name y _) [ea] [] _] [] _ => decide (x = if t then ("tuple" : PySem.Str) else "list") && glB Γ.sc x && decide (y = ("range" : PySem.Str)) && glB Γ.sc y && noStar ea && chkE Γ a ea
    | _ => false
  | .lrg2 t a b, ee => match ee with
    | .Call (.Name x _) [.Call (.Name y _) [ea, eb] [] _] [] _ => decide (x = if t then ("tuple" : PySem.Str) else "list") && glB Γ.sc x && decide (y = ("range" : PySem.Str)) && glB Γ.sc y && noStar ea && noStar eb && chkE Γ a ea && chkE Γ b eb
    | _ => false
  | .lc own tg it cond elt, ee => match ee with
    | .ListComp ee [⟨etg, eit, ifs, 0⟩] scope _ => (match ownN Γ.N own with | some o => blkC Γ.N Γ.sc scope o | none => false) && ((tgIx tg).all fun i => own.contains i) && noSet eit && chkTg (Γ.blk scope) tg etg && chkI Γ it etg eit &&
      chkC (Γ.blk scope) cond ifs && chkE (Γ.blk scope) elt ee
    | _ => false
  | .slice .., _ => false
  | .isB .., _ => false
def chkO (Γ : CI) : Op → Option Expr → Bool
  | .no, none => true
  | .yes e, some ee => chkE Γ e ee
  | _, _ => false
def chkC (Γ : CI) : Op → List Expr → Bool
  | .no, [] => true
  | .yes e, [ee] => chkE Γ e ee
  | _, _ => false
def chkEs (Γ : CI) (star : Bool) : Es → List Expr → Bool
  | .nil, [] => true
  | .cons e es, ee :: ees => noStar ee && chkE Γ e ee && chkEs Γ star es ees
  | .star e es, .Starred ee _ :: ees => star && chkE Γ e ee && chkEs Γ star es ees
  | _, _ => false
def chkI (Γ : CI) : MP.It → Expr → Expr → Bool
  | .seq e, _, ee => chkE Γ e ee
  | .text e, _, ee => chkE Γ e ee
  | .rng1 e, _, eit => match eit with
    | .Call (.Name x _) [ee] [] _ => decide (x = ("range" : PySem.Str)) && glB Γ.sc x && noStar ee && chkE Γ e ee
    | _ => false
  | .rng2 e e', _, eit => match eit with
    | .Call (.Name x _) [ee, ee'] [] _ => decide (x = ("range" : PySem.Str)) && glB Γ.sc x && noStar ee && noStar ee' && chkE Γ e ee && chkE Γ e' ee'
    | _ => false
  | .rng3 .., _, _ => false
  | .enum e, etg, eit => match etg, eit with
    | .Tuple .., .Call (.Name x _) [ee] [] _ => decide (x = ("enumerate" : PySem.Str)) && glB Γ.sc x && noStar ee && chkE Γ e ee
    | _, _ => false
  | .zip2 e e', etg, eit => match etg, eit with
    | .Tuple .., .Call (.Name x _) [ee, ee'] [] _ => decide (x = ("zip" : PySem.Str)) && glB Γ.sc x && noStar ee && noStar ee' && chkE Γ e ee && chkE Γ e' ee'
    | _, _ => false
  | .zip4 e e' e2 e3, etg, eit => match etg, eit with
    | .Tuple .., .Call (.Name x _) [ee, ee', ee2, ee3] [] _ => decide (x = ("zip" : PySem.Str)) && glB Γ.sc x && noStar ee && noStar ee' && noStar ee2 && noStar ee3 && chkE Γ e ee && chkE Γ e' ee' && chkE Γ e2 ee2 && chkE Γ e3 ee3
    | _, _ => false
end
def bnames : List PySem.Str := ["len", "abs", "max", "min", "sum", "all", "any", "int", "str", "tuple", "list", "sorted", "repr", "bool", "isinstance", "range", "enumerate", "zip"]
structure GOk (g : GI) (lvl : Nat) (X : Cx) (T : Nat → Fn) (ck : List (List Ky)) : Prop where
  call : ∀ i x n, g.fns[i]? = some (x, n) → i < lvl → ∃ f fd ps, FnA X.prog X.w X.K X.mg X.base (L2.CX X.prog X.w) X.A f fd ps (spF (kc X ck) (T i) n) ∧ X.mg x = some (.ref f) ∧ PySem.W.keepIn X.K (.ref f) = true ∧ Binds X.K fd ps []
  told : X.A.guards = some []
  gl : ∀ p ∈ g.gl, ∃ u z, X.mg p.1 = some u ∧ RelV z u ∧ ∀ H M ρ, Rep (kc X ck) (off H M) ρ z p.2
  blt : ∀ x ∈ bnames, X.mg x = none
  gcd : g.math = true → X.mg "gcd" = some (.builtin "math.gcd") ∧ X.mg "isqrt" = some (.builtin "math.isqrt")
structure COk (Γ : CI) (X : Cx) (W : WX) (T : Nat → Fn) (ck : List (List Ky)) : Prop where
  N : X.N = Γ.N
  nd : X.N.Nodup
  sc : X.env.scope = Γ.sc
  fn : ∀ x, Γ.fn x = true → X.fn x = true
  calm : X.calm = true
  un : X.A.units + 65 < cLine
  tk : Takes X W
  g : GOk Γ.g Γ.lvl X T ck
end MP
set_option maxHeartbeats 4000000
set_option autoImplicit false
namespace MP
open PySem PySem.Spec PyProof.Rows L2
section
variable {T : Nat → Fn} {ck : List (List Ky)}
theorem nm_ok {x : PySem.Str} (h : nmB x = true) : (x == ("__debug__" : PySem.Str)) = false ∧ (x == ("__classdict__" : PySem.Str)) = false ∧ x ≠ "__name__" := by
  unfold nmB at h
  simp only [Bool.and_eq_true, Bool.not_eq_true'] at h
  refine ⟨h.1.1, h.1.2, fun e => ?_⟩
  have := h.2
  rw [e] at this
  simp at this
theorem vis_ok {sc : Scope} {x : PySem.Str} (h : visB sc x = true) : Vis sc x := by
  unfold visB at h
  unfold Vis
  split at h <;> simp_all
theorem gl_ok {sc : Scope} {x : PySem.Str} (h : glB sc x = true) : sc.names.lookup x = some .globalImplicit := by
  unfold glB at h
  split at h <;> simp_all
theorem COk.glo {Γ : CI} {X : Cx} {W : WX} (C : COk Γ X W T ck) {x : PySem.Str} (h : glB Γ.sc x = true) : Gl X x := by
  show X.env.scope.names.lookup x = _
  rw [C.sc]; exact gl_ok h
theorem con_ok {K : KC} {v : Val} {c : Const} (h : conB v c = true) {X : Cx} {j : Nat} {pos : Pos} : ∃ z, PE X (.Constant c j pos) (tC z) ∧ ∀ H M ρ, Rep K (off H M) ρ z v := by
  cases v <;> cases c <;> simp only [conB, beq_iff_eq, decide_eq_true_eq, Bool.and_eq_true, Bool.false_eq_true] at h
  · exact ⟨_, pe_non, fun _ _ _ => .non⟩
  · subst h; exact ⟨_, pe_bl, fun _ _ _ => .bl _⟩
  · subst h; exact ⟨_, pe_int, fun _ _ _ => .int _⟩
  · obtain ⟨rfl, h⟩ := h
    exact ⟨_, pe_str, fun _ _ _ => .str _ fun c hc => by
      have := List.all_eq_true.mp h c hc
      exact of_decide_eq_true this⟩
theorem star_no {e : Expr} {es : List Expr} {env : PySem.Env} (h : noStar e = true) : starEach (e :: es) env = (false, eval e env) :: starEach es env := by
  cases e <;> first | rfl | simp [noStar] at h
theorem set_no {e : Expr} {env : PySem.Env} (h : noSet e = true) : ∀ x, foldedSetIterable e env x = pure x := by
  intro x
  cases e <;> first | rfl | simp [noSet] at h
theorem set_mark {op : CmpOp} {e : Expr} (h : noSet e = true) : behindInMarks op e = false := by
  cases e <;> first | rfl | simp [noSet] at h
theorem slice_no {e : Expr} (h : noSlice e = true) : PlainIx e := by
  intro o i
  cases e <;> first | rfl | simp [noSlice] at h
theorem pw_of {X : Cx} {op : BoolOp} {vs : List Expr} {pos : Pos} {t : TT} (h : PT X (.BoolOp op vs pos) t) : PW X (.BoolOp op vs pos) t := ⟨fun wh pins s σ H Q I hq => h.run pins s σ H Q I hq⟩
abbrev Good (T : Nat → Fn) (ck : List (List Ky)) (X : Cx) (W : WX) (e : E) (ee : Expr) : Prop := (∀ b, PE X ee (tE (kc X ck) W T b e)) ∧ ∀ b, PT X ee (tT (kc X ck) W T b e)
theorem good_any {X : Cx} {W : WX} {e : E} {ee : Expr} (h : ∀ b, PE X ee (tE (kc X ck) W T b e)) (hp : ∀ whole, isTrue ee X.env whole = (do let v ← whole; standAt ee.pos; holding [v] (truthy v))) : Good T ck X W e ee := ⟨h, fun b => t_any (h b) hp⟩
theorem st_ok {Γ : CI} {X : Cx} {W : WX} (C : COk Γ X W T ck) {x : PySem.Str} (h : stB Γ x = true) : L2.Loc X.env.scope x ∧ (X.fn x = true ∨ X.env.scope.names.lookup x = some .local) := by
  unfold stB at h
  rw [C.sc]
  unfold L2.Loc
  split at h
  · rename_i q; exact ⟨.inl q, .inr q⟩
  · rename_i q; exact ⟨.inr q, .inl (C.fn x h)⟩
  · cases h
theorem tgNs_ok {Γ : CI} {X : Cx} {W : WX} (C : COk Γ X W T ck) : ∀ {is : List Nat} {es : List Expr}, chkTg.chkNs Γ is es = true → PGs X es (gNs is) ∧ (assignEach es X.env).length = is.length ∧ (assignEach es X.env).findIdx? (·.1) = none
  | [], [], _ => ⟨pgs_nil, rfl, rfl⟩
  | [], _ :: _, h => by simp [chkTg.chkNs] at h
  | _ :: _, [], h => by simp [chkTg.chkNs] at h
  | i :: is, e :: es, h => by
    cases e <;> simp only [chkTg.chkNs, Bool.and_eq_true, decide_eq_true_eq, Bool.false_eq_true] at h
    obtain ⟨⟨h1, h2⟩, h3⟩ := h
    obtain ⟨p, l, f⟩ := tgNs_ok C h3
    obtain ⟨l1, l2⟩ := st_ok C h2
    refine ⟨pgs_cons (pg_name C.nd (by rw [C.N]; exact h1) l1 l2) p rfl, ?_, ?_⟩
    · show (assignEach es X.env).length + 1 = is.length + 1
      rw [l]
    · show List.findIdx? (·.1) ((false, _) :: assignEach es X.env) = none
      rw [List.findIdx?_cons]
      simp only [Bool.false_eq_true, if_false, f, Option.map_none]
theorem tg_ok {Γ : CI} {X : Cx} {W : WX} (C : COk Γ X W T ck) {tg : Tg} {e : Expr} (h : chkTg Γ tg e = true) : PG X e (gT X.K tg) := by
  cases tg with
  | name i =>
    cases e <;> simp only [chkTg, Bool.and_eq_true, decide_eq_true_eq, Bool.false_eq_true] at h
    obtain ⟨l1, l2⟩ := st_ok C h.2
    exact pg_name C.nd (by rw [C.N]; exact h.1) l1 l2
  | tup is =>
    cases e <;> simp only [chkTg, Bool.false_eq_true] at h
    obtain ⟨p, l, f⟩ := tgNs_ok C h
    exact pg_tup C.calm p l f
theorem blt_mg {Γ : CI} {X : Cx} {W : WX} (C : COk Γ X W T ck) {x : PySem.Str} (h : x ∈ bnames) : X.mg x = none := C.g.blt x h
theorem COk.blk {Γ : CI} {X : Cx} {W : WX} (C : COk Γ X W T ck) {scope : Scope} (s : Shared) (H : Hp) (c : Addr) (cl : List (PySem.Str × Addr)) (fp : List Addr) : COk (Γ.blk scope) (X.blk s H scope (compEnvC scope cl c X.env) fp) (fun _ _ _ _ => False) T ck where
  N := C.N
  nd := C.nd
  sc := by
    show relS scope X.env.scope = relS scope Γ.sc
    rw [C.sc]
  fn := fun x h => h
  calm := C.calm
  un := C.un
  tk := takes0
  g := ⟨C.g.call, C.g.told, C.g.gl, C.g.blt, C.g.gcd⟩
theorem es_len : ∀ {es : Es} {Γ : CI} {ees : List Expr} {η : Env} {h : MH} {vs : List Val} {h' : MH}, chkEs Γ false es ees = true → evEs T es η h = .ok vs h' → vs.length = ees.length
  | .nil, Γ, ees, η, h, vs, h', c, e => by
    cases ees with
    | nil => simp only [evEs, Res.ok.injEq] at e; rw [← e.1]; rfl
    | cons _ _ => simp [chkEs] at c
  | .cons x es, Γ, ees, η, h, vs, h', c, e => by
    cases ees with
    | nil => simp [chkEs] at c
    | cons y ys =>
      simp only [chkEs, Bool.and_eq_true] at c
      simp only [evEs] at e
      cases e1 : evE T false x η h with
      | ok v h1 =>
        rw [e1] at e
        have e' : ((evEs T es η h1).bind fun vs h2 => Res.ok (v :: vs) h2) = .ok vs h' := e
        cases e2 : evEs T es η h1 with
        | ok ws h2 =>
          rw [e2] at e'
          simp only [Res.bind, Res.ok.injEq] at e'
          rw [← e'.1, List.length_cons, List.length_cons, es_len c.2 e2]
        | exc => rw [e2] at e'; simp at e'
        | bad => rw [e2] at e'; simp at e'
      | exc => rw [e1] at e; simp at e
      | bad => rw [e1] at e; simp at e
  | .star x es, Γ, ees, η, h, vs, h', c, e => by
    cases ees with
    | nil => simp [chkEs] at c
    | cons y ys => cases y <;> simp [chkEs] at c
theorem es_plain : ∀ {es : Es} {Γ : CI} {ees : List Expr} {env : PySem.Env} {pos : Pos}, chkEs Γ false es ees = true → (backTo pos (starEach ees env)).any (·.1) = false
  | .nil, Γ, ees, env, pos, c => by
    cases ees with
    | nil => rfl
    | cons _ _ => simp [chkEs] at c
  | .cons x es, Γ, ees, env, pos, c => by
    cases ees with
    | nil => simp [chkEs] at c
    | cons y ys =>
      simp only [chkEs, Bool.and_eq_true] at c
      rw [star_no c.1.1]
      show (backTo pos (starEach ys env)).any (·.1) = false
      exact es_plain c.2
  | .star x es, Γ, ees, env, pos, c => by
    cases ees with
    | nil => simp [chkEs] at c
    | cons y ys => cases y <;> simp [chkEs] at c
theorem es_head {es : Es} {Γ : CI} {ee : Expr} {ees : List Expr} {env : PySem.Env} (c : chkEs Γ false es (ee :: ees) = true) : starEach (ee :: ees) env = (false, eval ee env) :: starEach ees env := by
  cases es with
  | nil => simp [chkEs] at c
  | cons x es => simp only [chkEs, Bool.and_eq_true] at c; exact star_no c.1.1
  | star x es => cases ee <;> simp [chkEs] at c
theorem es_tail {es : Es} {Γ : CI} {ee : Expr} {ees : List Expr} {env : PySem.Env} {pos : Pos} (c : chkEs Γ false es (ee :: ees) = true) : (backTo pos (starEach ees env)).any (·.1) = false := by
  cases es with
  | nil => simp [chkEs] at c
  | cons x es => simp only [chkEs, Bool.and_eq_true] at c; exact es_plain c.2
  | star x es => cases ee <;> simp [chkEs] at c
theorem nm_of {x : PySem.Str} (h : x ∈ bnames) : nmB x = true := by
  have : bnames.all nmB = true := by decide +kernel
  exact List.all_eq_true.mp this x h
theorem ownN_map {N : List PySem.Str} : ∀ {is : List Nat} {o : List (PySem.Str × Nat)}, ownN N is = some o → o.map (·.2) = is
  | [], o, h => by simp only [ownN, Option.some.injEq] at h; subst h; rfl
  | i :: is, o, h => by
    simp only [ownN] at h
    cases e1 : N[i]? with
    | none => rw [e1] at h; simp at h
    | some x =>
      cases e2 : ownN N is with
      | none => rw [e1, e2] at h; simp at h
      | some r =>
        rw [e1, e2] at h
        simp only [Option.some.injEq] at h
        subst h
        rw [List.map_cons, ownN_map e2]
theorem lit_base {e : Expr} {m : PySem.Str} {env : PySem.Env} (h : isLit e = true) : attributeBase e m env (eval e env) = eval e env := by
  cases e <;> first | rfl | simp [isLit] at h
theorem blt_known (bl : Blt) (h : bltOk bl = true) (hb : bl ≠ .gcd) (hi : bl ≠ .isqrt) : bltNm bl ∈ bnames ∧ bootBuiltins (bltNm bl) = some (bfn bl) := by
  cases bl <;> first | exact absurd rfl hb | exact absurd rfl hi | (simp [bltOk] at h; done) | exact ⟨by decide +kernel, by decide +kernel⟩
theorem ty_known (t : Ty) : tyNm t ∈ bnames ∧ bootBuiltins (tyNm t) = some (.type (tyN t)) := by
  cases t <;> exact ⟨by decide +kernel, by decide +kernel⟩
theorem bfn_cases (bl : Blt) : (∃ s, bfn bl = .builtin s) ∨ ∃ s, bfn bl = .type s := by
  cases bl <;> first | exact .inl ⟨_, rfl⟩ | exact .inr ⟨_, rfl⟩
mutual
theorem sE : ∀ (e : E) {ee : Expr} {Γ : CI} {X : Cx} {W : WX}, chkE Γ e ee = true → COk Γ X W T ck → Good T ck X W e ee
  | .var i, ee, Γ, X, W, h, C => by
    simp only [chkE] at h
    split at h
    · simp only [Bool.and_eq_true, decide_eq_true_eq] at h
      obtain ⟨n1, n2, _⟩ := nm_ok h.2
      exact good_any (fun b => e_var (by rw [C.N]; exact h.1.1) (by rw [C.sc]; exact vis_ok h.1.2) n1 n2) (fun _ => rfl)
    · cases h
  | .con v, ee, Γ, X, W, h, C => by
    simp only [chkE] at h
    split at h
    · obtain ⟨z, p, r⟩ := con_ok (K := kc X ck) h
      exact good_any (fun b => e_con p r) (fun _ => rfl)
    · cases h
  | .glob v, ee, Γ, X, W, h, C => by
    simp only [chkE] at h
    split at h
    · simp only [Bool.and_eq_true] at h
      obtain ⟨⟨h1, h2⟩, h3⟩ := h
      obtain ⟨p, hp, h4⟩ := List.any_eq_true.mp h1
      rw [Bool.and_eq_true, decide_eq_true_eq] at h4
      obtain ⟨rfl, h5⟩ := h4
      have e5 := veq_ok h5
      obtain ⟨u, z, m, r, q⟩ := C.g.gl p hp
      rw [e5] at q
      exact good_any (fun b => e_glob (pe_glob (C.glo h2) m r (nm_ok h3).1) q) (fun _ => rfl)
    · cases h
  | .bin op a b, ee, Γ, X, W, h, C => by
    simp only [chkE] at h
    split at h
    · simp only [Bool.and_eq_true, decide_eq_true_eq] at h
      obtain ⟨⟨rfl, h1⟩, h2⟩ := h
      exact good_any (fun _ => e_bin ((sE a h1 C).1 true) ((sE b h2 C).1 true)) (fun _ => rfl)
    · cases h
  | .neg a, ee, Γ, X, W, h, C => by
    simp only [chkE] at h
    split at h
    · exact good_any (fun _ => e_neg ((sE a h C).1 true)) (fun _ => rfl)
    · cases h
  | .cmp op a b, ee, Γ, X, W, h, C => by
    simp only [chkE] at h
    split at h
    · simp only [Bool.and_eq_true, decide_eq_true_eq] at h
      obtain ⟨⟨⟨rfl, h1⟩, h2⟩, h3⟩ := h
      exact ⟨fun _ => e_cmp C.un ((sE a h1 C).1 true) ((sE b h2 C).1 true) (set_mark h3), fun _ => t_cmp C.un ((sE a h1 C).1 true) ((sE b h2 C).1 true) (set_mark h3)⟩
    · cases h
  | .chain op op' a b c, ee, Γ, X, W, h, C => by
    simp only [chkE] at h
    split at h
    · simp only [Bool.and_eq_true, decide_eq_true_eq] at h
      obtain ⟨⟨⟨⟨⟨rfl, rfl⟩, h1⟩, h2⟩, h3⟩, h4⟩ := h
      exact ⟨fun _ => e_chain C.un ((sE a h1 C).1 true) ((sE b h2 C).1 true) ((sE c h3 C).1 true) (set_mark h4), fun _ => t_chain C.un ((sE a h1 C).1 true) ((sE b h2 C).1 true) ((sE c h3 C).1 true) (set_mark h4)⟩
    · cases h
  | .isN a, ee, Γ, X, W, h, C => by
    simp only [chkE] at h
    split at h
    · exact ⟨fun _ => e_isN ((sE a h C).1 true), fun _ => t_isN ((sE a h C).1 true)⟩
    · cases h
  | .notN a, ee, Γ, X, W, h, C => by
    simp only [chkE] at h
    split at h
    · exact ⟨fun _ => e_notN ((sE a h C).1 true), fun _ => t_notN ((sE a h C).1 true)⟩
    · cases h
  | .isB .., ee, Γ, X, W, h, C => by simp [chkE] at h
  | .slice .., ee, Γ, X, W, h, C => by simp [chkE] at h
  | .band a b, ee, Γ, X, W, h, C => by
    simp only [chkE] at h
    split at h
    · rw [Bool.and_eq_true] at h
      have ga := sE a h.1 C
      have gb := sE b h.2 C
      exact ⟨fun _ => e_band (ga.1 false) (e_one (gb.1 false)), fun _ => (w_band (ga.2 false) (w_andone (gb.2 false))).pt⟩
    · rw [Bool.and_eq_true] at h
      have ga := sE a h.1 C
      have gb := sE b h.2 C
      exact ⟨fun _ => e_band (ga.1 false) (gb.1 false), fun _ => (w_band (ga.2 false) (pw_of (gb.2 false))).pt⟩
    · cases h
  | .bor a b, ee, Γ, X, W, h, C => by
    simp only [chkE] at h
    split at h
    · rw [Bool.and_eq_true] at h
      have ga := sE a h.1 C
      have gb := sE b h.2 C
      exact ⟨fun _ => e_bor (ga.1 false) (e_one (gb.1 false)), fun _ => (w_bor (ga.2 false) (w_orone (gb.2 false))).pt⟩
    · rw [Bool.and_eq_true] at h
      have ga := sE a h.1 C
      have gb := sE b h.2 C
      exact ⟨fun _ => e_bor (ga.1 false) (gb.1 false), fun _ => (w_bor (ga.2 false) (pw_of (gb.2 false))).pt⟩
    · cases h
  | .bnot a, ee, Γ, X, W, h, C => by
    simp only [chkE] at h
    split at h
    · exact ⟨fun _ => e_bnot ((sE a h C).1 true), fun _ => t_bnot ((sE a h C).2 true)⟩
    · cases h
  | .ife c a b, ee, Γ, X, W, h, C => by
    simp only [chkE] at h
    split at h
    · simp only [Bool.and_eq_true] at h
      have gc := sE c h.1.1 C
      have ga := sE a h.1.2 C
      have gb := sE b h.2 C
      exact ⟨fun _ => e_ife (gc.2 true) (ga.1 false) (gb.1 false), fun _ => t_ife (gc.2 true) (ga.2 false) (gb.2 false)⟩
    · cases h
  | .tup es, ee, Γ, X, W, h, C => by
    simp only [chkE] at h
    split at h
    · exact good_any (fun _ => e_tup (sEs es h C).1) (fun _ => rfl)
    · cases h
  | .lst es, ee, Γ, X, W, h, C => by
    simp only [chkE] at h
    split at h
    · exact good_any (fun _ => e_lst (sEs es h C).1) (fun _ => rfl)
    · cases h
  | .newObj es, ee, Γ, X, W, h, C => by
    simp only [chkE] at h
    split at h
    · exact good_any (fun _ => e_newObj (sEs es h C).1) (fun _ => rfl)
    · cases h
  | .sub a i, ee, Γ, X, W, h, C => by
    simp only [chkE] at h
    split at h
    · simp only [Bool.and_eq_true] at h
      have ga := sE a h.1.2 C
      have gi := sE i h.2 C
      exact good_any (fun _ => e_sub C.un (ga.1 true) (gi.1 true) (slice_no h.1.1)) (fun _ => rfl)
    · cases h
  | .sliceE a lo hi, ee, Γ, X, W, h, C => by
    simp only [chkE] at h
    split at h
    · simp only [Bool.and_eq_true] at h
      exact good_any (fun _ => e_slice ((sE a h.1.1 C).1 true) (sO lo h.1.2 C) (sO hi h.2 C)) (fun _ => rfl)
    · cases h
  | .rev a, ee, Γ, X, W, h, C => by
    simp only [chkE] at h
    split at h
    · exact good_any (fun _ => e_rev ((sE a h C).1 true)) (fun _ => rfl)
    · cases h
  | .call f es, ee, Γ, X, W, h, C => by
    simp only [chkE] at h
    split at h
    · rename_i x _ ea ees _
      simp only [Bool.and_eq_true, decide_eq_true_eq] at h
      obtain ⟨⟨⟨⟨h1, h2⟩, h3⟩, h4⟩, h5⟩ := h
      split at h2
      · rename_i y n hf
        simp only [Bool.and_eq_true, decide_eq_true_eq] at h2
        obtain ⟨rfl, hn⟩ := h2
        obtain ⟨fa, fd, ps, F, hm, hk, hb⟩ := C.g.call f _ n hf h1
        exact good_any (fun _ => e_call F (C.glo h3) hm hk hb C.tk (sEs es h5 C).1 (fun η h vs h' e => by rw [es_len h5 e]; exact hn) (nm_ok h4).1 (es_head h5) (es_tail h5)) (fun _ => rfl)
      · cases h2
    · cases h
  | .blt bl es, ee, Γ, X, W, h, C => by
    simp only [chkE] at h
    split at h
    · rename_i x _ ea ees _
      simp only [Bool.and_eq_true, decide_eq_true_eq] at h
      obtain ⟨⟨⟨⟨⟨rfl, h1⟩, h2⟩, h3⟩, h4⟩, h5⟩ := h
      have pa := (sEs es h5 C).2 rfl
      refine good_any (fun b => ?_) (fun _ => rfl)
      by_cases hg : bl = .gcd
      · subst hg
        exact e_blt (T0 := "math.gcd") rfl (C.glo h3) (.inr (C.g.gcd h2).1) pa C.calm (nm_ok h4).1 (es_head h5) (es_tail h5)
      · by_cases hi : bl = .isqrt
        · subst hi
          exact e_blt (T0 := "math.isqrt") rfl (C.glo h3) (.inr (C.g.gcd h2).2) pa C.calm (nm_ok h4).1 (es_head h5) (es_tail h5)
        · obtain ⟨k1, k2⟩ := blt_known bl h1 hg hi
          rcases bfn_cases bl with ⟨s, hs⟩ | ⟨s, hs⟩
          · exact e_blt (T0 := s) hs (C.glo h3) (.inl ⟨blt_mg C k1, by rw [k2, hs], (nm_ok h4).2.2⟩) pa C.calm (nm_ok h4).1 (es_head h5) (es_tail h5)
          · exact e_bty (T0 := s) hs (C.glo h3) (blt_mg C k1) (by rw [k2, hs]) (nm_ok h4).2.2 pa C.calm (nm_ok h4).1 (es_head h5) (es_tail h5)
    · cases h
  | .meth mm a es, ee, Γ, X, W, h, C => by
    simp only [chkE] at h
    split at h
    · simp only [Bool.and_eq_true, decide_eq_true_eq] at h
      obtain ⟨⟨⟨⟨rfl, h1⟩, h2⟩, h3⟩, h4⟩ := h
      exact good_any (fun _ => e_join ((sE a h3 C).1 true) ((sEs es h4 C).2 rfl) (lit_base h2) (es_head h4) h1) (fun _ => rfl)
    · cases h
  | .isinst a t, ee, Γ, X, W, h, C => by
    simp only [chkE] at h
    split at h
    · simp only [Bool.and_eq_true, decide_eq_true_eq] at h
      obtain ⟨⟨⟨⟨⟨⟨rfl, h1⟩, rfl⟩, h2⟩, h3⟩, h4⟩, h5⟩ := h
      obtain ⟨k1, k2⟩ := ty_known t
      exact good_any (fun _ => e_isinst (C.glo h1) (blt_mg C (by decide +kernel)) (C.glo h2) (blt_mg C k1) k2 (nm_ok h3).2.2 (nm_ok h3).1 ((sE a h5 C).1 true) (star_no h4)) (fun _ => rfl)
    · cases h
  | .lrg t a, ee, Γ, X, W, h, C => by
    simp only [chkE] at h
    split at h
    · simp only [Bool.and_eq_true, decide_eq_true_eq] at h
      obtain ⟨⟨⟨⟨⟨h1, h2⟩, rfl⟩, h3⟩, h4⟩, h5⟩ := h
      have hin : (if t then ("tuple" : PySem.Str) else "list") ∈ bnames := by cases t <;> decide +kernel
      exact good_any (fun _ => e_lrg h1 C.calm (C.glo h2) (by rw [h1]; exact blt_mg C hin) (C.glo h3) (blt_mg C (by decide +kernel)) ((sE a h5 C).1 true) (star_no h4)) (fun _ => rfl)
    · cases h
  | .lrg2 t a b, ee, Γ, X, W, h, C => by
    simp only [chkE] at h
    split at h
    · simp only [Bool.and_eq_true, decide_eq_true_eq] at h
      obtain ⟨⟨⟨⟨⟨⟨⟨h1, h2⟩, rfl⟩, h3⟩, h4⟩, h4'⟩, h5⟩, h6⟩ := h
      have hin : (if t then ("tuple" : PySem.Str) else "list") ∈ bnames := by cases t <;> decide +kernel
      exact good_any (fun _ => e_lrg2 h1 C.calm (C.glo h2) (by rw [h1]; exact blt_mg C hin) (C.glo h3) (blt_mg C (by decide +kernel)) ((sE a h5 C).1 true) ((sE b h6 C).1 true) (star_no h4) (star_no h4')) (fun _ => rfl)
    · cases h
  | .lc own tg it cond elt, ee, Γ, X, W, h, C => by
    simp only [chkE] at h
    split at h
    · rename_i ee etg eit ifs scope pos
      simp only [Bool.and_eq_true] at h
      obtain ⟨⟨⟨⟨⟨⟨h1, h2⟩, h3⟩, h4⟩, h5⟩, h6⟩, h7⟩ := h
      split at h1
      · rename_i o ho
        have hmap := ownN_map ho
        have ok := blkOk_by h1
        refine good_any (fun b => ?_) (fun _ => rfl)
        rw [← hmap]
        refine e_lc C.calm C.nd (sI it h5 C true) (by rw [C.N, C.sc]; exact ok) (fun i hi => ?_) (fun s H c cl fp => tg_ok (C.blk s H c cl fp) h4) (fun s H c cl fp => sC cond h6 (C.blk s H c cl fp)) (fun s H c cl fp => (sE elt h7 (C.blk s H c cl fp)).1 false) (set_no h3)
        rw [hmap]
        have := List.all_eq_true.mp h2 i hi
        simpa using this
      · cases h1
    · cases h
theorem sO : ∀ (o : Op) {eo : Option Expr} {Γ : CI} {X : Cx} {W : WX}, chkO Γ o eo = true → COk Γ X W T ck → PO X eo (tOp' (X := X) (ck := ck) (W := W) (T := T) o)
  | .no, eo, Γ, X, W, h, C => by
    cases eo with
    | none => exact o_no
    | some e => simp [chkO] at h
  | .yes e, eo, Γ, X, W, h, C => by
    cases eo with
    | none => simp [chkO] at h
    | some ee => exact o_yes ((sE e (by simpa [chkO] using h) C).1 true)
theorem sC : ∀ (o : Op) {ifs : List Expr} {Γ : CI} {X : Cx} {W : WX}, chkC Γ o ifs = true → COk Γ X W T ck → PTs X ifs (tCd (kc X ck) W T o)
  | .no, ifs, Γ, X, W, h, C => by
    cases ifs with
    | nil => exact pts_nil
    | cons _ _ => simp [chkC] at h
  | .yes e, ifs, Γ, X, W, h, C => by
    match ifs, h with
    | [ee], h => exact pts_one ((sE e (by simpa [chkC] using h) C).2 true)
    | [], h => simp [chkC] at h
    | _ :: _ :: _, h => simp [chkC] at h
theorem sEs : ∀ (es : Es) {ees : List Expr} {star : Bool} {Γ : CI} {X : Cx} {W : WX}, chkEs Γ star es ees = true → COk Γ X W T ck → PA X ees (tEs (kc X ck) W T es) ∧ (star = false → PA X ees (tBs (kc X ck) W T es))
  | .nil, ees, star, Γ, X, W, h, C => by
    cases ees with
    | nil => exact ⟨a_nil, fun _ => b_nil⟩
    | cons _ _ => simp [chkEs] at h
  | .cons e es, ees, star, Γ, X, W, h, C => by
    cases ees with
    | nil => simp [chkEs] at h
    | cons ee ees =>
      simp only [chkEs, Bool.and_eq_true] at h
      have g := sE e h.1.2 C
      have r := sEs es h.2 C
      exact ⟨a_cons (g.1 false) r.1 (star_no h.1.1), fun hs => b_cons (g.1 true) (r.2 hs) (star_no h.1.1)⟩
  | .star e es, ees, star, Γ, X, W, h, C => by
    cases ees with
    | nil => simp [chkEs] at h
    | cons ee ees =>
      cases ee <;> simp only [chkEs, Bool.and_eq_true, Bool.false_eq_true] at h
      obtain ⟨⟨h1, h2⟩, h3⟩ := h
      exact ⟨a_star ((sE e h2 C).1 true) (sEs es h3 C).1, fun hs => by rw [hs] at h1; cases h1⟩
theorem sI : ∀ (it : MP.It) {etg eit : Expr} {Γ : CI} {X : Cx} {W : WX}, chkI Γ it etg eit = true → COk Γ X W T ck → ∀ b, PI X etg eit (tIt (kc X ck) W T b it)
  | .seq e, etg, eit, Γ, X, W, h, C => fun b => i_seq ((sE e (by simpa only [chkI] using h) C).1 b)
  | .text e, etg, eit, Γ, X, W, h, C => fun b => i_text ((sE e (by simpa only [chkI] using h) C).1 b)
  | .rng1 e, etg, eit, Γ, X, W, h, C => fun b => by
    simp only [chkI] at h
    split at h
    · simp only [Bool.and_eq_true, decide_eq_true_eq] at h
      obtain ⟨⟨⟨rfl, h1⟩, h2⟩, h3⟩ := h
      exact i_rng1 (C.glo h1) (blt_mg C (by decide +kernel)) ((sE e h3 C).1 true) (star_no h2)
    · cases h
  | .rng2 e e', etg, eit, Γ, X, W, h, C => fun b => by
    simp only [chkI] at h
    split at h
    · simp only [Bool.and_eq_true, decide_eq_true_eq] at h
      obtain ⟨⟨⟨⟨⟨rfl, h1⟩, h2⟩, h2'⟩, h3⟩, h4⟩ := h
      exact i_rng2 (C.glo h1) (blt_mg C (by decide +kernel)) ((sE e h3 C).1 true) ((sE e' h4 C).1 true) (by rw [star_no h2, star_no h2']; rfl) (star_no h2')
    · cases h
  | .rng3 .., etg, eit, Γ, X, W, h, C => by simp [chkI] at h
  | .zip4 e e' e2 e3, etg, eit, Γ, X, W, h, C => fun b => by
    simp only [chkI] at h
    split at h
    · simp only [Bool.and_eq_true, decide_eq_true_eq] at h
      obtain ⟨⟨⟨⟨⟨⟨⟨⟨⟨rfl, h1⟩, n1⟩, n2⟩, n3⟩, n4⟩, k1⟩, k2⟩, k3⟩, k4⟩ := h
      exact i_zip4 (C.glo h1) (blt_mg C (by decide +kernel)) ((sE e k1 C).1 b) ((sE e' k2 C).1 b) ((sE e2 k3 C).1 b) ((sE e3 k4 C).1 b) (star_no n1) (star_no n2) (star_no n3) (star_no n4)
    · cases h
  | .enum e, etg, eit, Γ, X, W, h, C => fun b => by
    simp only [chkI] at h
    split at h
    · simp only [Bool.and_eq_true, decide_eq_true_eq] at h
      obtain ⟨⟨⟨rfl, h1⟩, h2⟩, h3⟩ := h
      exact i_enum (C.glo h1) (blt_mg C (by decide +kernel)) ((sE e h3 C).1 b) (star_no h2)
    · cases h
  | .zip2 e e', etg, eit, Γ, X, W, h, C => fun b => by
    simp only [chkI] at h
    split at h
    · simp only [Bool.and_eq_true, decide_eq_true_eq] at h
      obtain ⟨⟨⟨⟨⟨rfl, h1⟩, h2⟩, h2'⟩, h3⟩, h4⟩ := h
      exact i_zip2 (C.glo h1) (blt_mg C (by decide +kernel)) ((sE e h3 C).1 b) ((sE e' h4 C).1 b) (star_no h2) (star_no h2')
    · cases h
end
end
end MP
set_option maxHeartbeats 4000000
set_option autoImplicit false
namespace MP
open PySem PySem.Spec PyProof.Rows L2
structure Go (O ρ : List Addr) (H : Hp) (O' ρ' : List Addr) (H' : Hp) : Prop where
  ext : Ext H (O ++ ρ) H' (O' ++ ρ')
  pre : ρ <+: ρ'
theorem Go.refl {O ρ : List Addr} {H : Hp} : Go O ρ H O ρ H := ⟨Ext.refl, List.prefix_rfl⟩
theorem Go.trans {O ρ O1 ρ1 O2 ρ2 : List Addr} {H H1 H2 : Hp} (a : Go O ρ H O1 ρ1 H1) (b : Go O1 ρ1 H1 O2 ρ2 H2) : Go O ρ H O2 ρ2 H2 := ⟨a.ext.trans b.ext, a.pre.trans b.pre⟩
theorem Grow.go {O ρ ρ' : List Addr} {H H' : Hp} (g : Grow ρ H ρ' H') : Go O ρ H O ρ' H' := ⟨g.ext, g.pre⟩
structure Mv (O ρ : List Addr) (H : Hp) (O' ρ' : List Addr) (H' : Hp) : Prop where
  sub : ∀ a, a ∈ O → a ∈ O'
  grow : Grow ρ H ρ' H'
  fresh : ∀ a, a ∈ O' → a ∉ O → H a = none
theorem Mv.pre {O ρ O' ρ' : List Addr} {H H' : Hp} (m : Mv O ρ H O' ρ' H') : ρ <+: ρ' := m.grow.pre
theorem Mv.ext {O ρ O' ρ' : List Addr} {H H' : Hp} (m : Mv O ρ H O' ρ' H') : Ext H (O ++ ρ) H' (O' ++ ρ') := fun a o e => by
  obtain ⟨n, e⟩ := off_some.mp e
  rw [List.mem_append, not_or] at n
  refine off_some.mpr ⟨?_, m.grow.keep a o e n.2⟩
  rw [List.mem_append, not_or]
  refine ⟨fun q => ?_, m.grow.old e n.2⟩
  rw [m.fresh a q n.1] at e; cases e
section
variable {K : KC} {H0 H H' H1 H2 : Hp} {ρ0 B O O1 O2 ρ ρ1 ρ2 : List Addr} {η : Env} {h h' : MH} {σ : L2.St}
theorem Mv.go {O' ρ' : List Addr} (m : Mv O ρ H O' ρ' H') : Go O ρ H O' ρ' H' := ⟨m.ext, m.pre⟩
theorem Mv.refl : Mv O ρ H O ρ H := ⟨fun _ h => h, Grow.refl, fun _ h n => absurd h n⟩
theorem Mv.trans (a : Mv O ρ H O1 ρ1 H1) (b : Mv O1 ρ1 H1 O2 ρ2 H2) : Mv O ρ H O2 ρ2 H2 := ⟨fun c h => b.sub c (a.sub c h), a.grow.trans b.grow, fun c h n => by
  by_cases hc : c ∈ O1
  · exact a.fresh c hc n
  · cases q : H c with
    | none => rfl
    | some o =>
      obtain ⟨o', e'⟩ := a.grow.liv c o q
      rw [b.fresh c h hc] at e'; cases e'⟩
theorem Grow.mv {ρ' : List Addr} (g : Grow ρ H ρ' H') : Mv O ρ H O ρ' H' := ⟨fun _ h => h, g, fun _ h n => absurd h n⟩
theorem ext_bar1 {p : Addr} {o : HO} (hp : H p = none) : Ext H (O ++ ρ) (upd H p o) ((p :: O) ++ ρ) := fun a q eq => by
  obtain ⟨n, eq⟩ := off_some.mp eq
  have ne : a ≠ p := ne_of_none eq hp
  refine off_some.mpr ⟨?_, by rw [upd_ne ne]; exact eq⟩
  rw [List.cons_append, List.mem_cons, not_or]
  exact ⟨ne, n⟩
theorem mv_bar1 {p : Addr} {o : HO} (hp : H p = none) : Mv O ρ H (p :: O) ρ (upd H p o) := ⟨fun _ h => List.mem_cons_of_mem _ h, Grow.same (Same.new hp), fun a h n => by
  rcases List.mem_cons.mp h with rfl | h
  · exact hp
  · exact absurd h n⟩
theorem ext_poke {p : Addr} {o : HO} (hp : p ∈ O ++ ρ) : Ext H (O ++ ρ) (upd H p o) (O ++ ρ) := fun a q eq => by
  obtain ⟨n, eq⟩ := off_some.mp eq
  refine off_some.mpr ⟨n, by rw [upd_ne]; exact eq; rintro rfl; exact n hp⟩
theorem St.mv {O' ρ' : List Addr} (S : St K H0 ρ0 B O ρ η h σ H) (m : Mv O ρ H O' ρ' H') (sep : ∀ a, a ∈ O' → a ∉ ρ') (liv : ∀ a, a ∈ O' → ∃ o, H' a = some o) (mh : MHR K H' (O' ++ ρ') ρ' h') : St K H0 ρ0 B O' ρ' η h' σ H' := by
  refine ⟨S.len, fun i x e => ?_, fun i x e => ?_, S.inj, sep, liv, fun a ha => m.sub a (S.bar a ha), mh, S.pre.trans m.pre, fun a ha => ?_, fun a o e hn => ?_, fun a o e => ?_⟩
  · obtain ⟨z, e1, r⟩ := S.val i x e
    exact ⟨z, e1, r.ext m.ext m.pre⟩
  · obtain ⟨a, e1, ho, hb, h0, w⟩ := S.own i x e
    exact ⟨a, e1, m.sub a ho, hb, h0, w.to m.ext m.pre fun o q => m.grow.keep a o q (S.sep a ho)⟩
  · exact (S.grown.trans m.grow).new a ha
  · exact (S.grown.trans m.grow).keep a o e hn
  · exact (S.grown.trans m.grow).liv a o e
theorem St.take {a : Addr} {x : Val} {i : Nat} (S : St K H0 ρ0 B O ρ η h σ H) (ha : a ∈ O) (hb : a ∉ B) (h0 : H0 a = none) (un : ∀ (j : Nat) (y : Val), η[j]? = some (Sl.o y) → σ[j]? ≠ some (some (V.ref a))) (w : Own K H (O ++ ρ) ρ a x) :
    St K H0 ρ0 B O ρ (η.set i (.o x)) h (σ.set i (some (.ref a))) H := by
  have lt : ∀ {s : Sl}, (η.set i (.o x))[i]? = some s → i < η.length := fun {s} e => by
    have := (List.getElem?_eq_some_iff.mp e).1
    simpa using this
  refine ⟨by rw [List.length_set, List.length_set, S.len], fun j y e => ?_, fun j y e => ?_, fun j k y z b e1 e2 e3 e4 => ?_, S.sep, S.liv, S.bar, S.mh, S.pre, S.new, S.keep, S.ali⟩
  · by_cases hj : i = j
    · subst hj
      rw [List.getElem?_set_self (lt e)] at e
      cases e
    · rw [List.getElem?_set_ne hj] at e ⊢
      exact S.val j y e
  · by_cases hj : i = j
    · subst hj
      have hl := lt e
      rw [List.getElem?_set_self hl] at e
      cases e
      exact ⟨a, List.getElem?_set_self (by rw [S.len]; exact hl), ha, hb, h0, w⟩
    · rw [List.getElem?_set_ne hj] at e ⊢
      exact S.own j y e
  · by_cases hj : i = j
    · by_cases hk : i = k
      · rw [← hj, ← hk]
      · subst hj
        rw [List.getElem?_set_ne hk] at e2 e4
        rw [List.getElem?_set_self (by rw [S.len]; exact lt e1)] at e3
        cases e3
        exact absurd e4 (un k z e2)
    · rw [List.getElem?_set_ne hj] at e1 e3
      by_cases hk : i = k
      · subst hk
        rw [List.getElem?_set_self (by rw [S.len]; exact lt e2)] at e4
        cases e4
        exact absurd e3 (un j y e1)
      · rw [List.getElem?_set_ne hk] at e2 e4
        exact S.inj j k y z b e1 e2 e3 e4
theorem St.write {a : Addr} {x x' : Val} {i : Nat} {o : HO} (S : St K H0 ρ0 B O ρ η h σ H) (e : η[i]? = some (Sl.o x)) (ea : σ[i]? = some (some (V.ref a))) (w : Own K (upd H a o) (O ++ ρ) ρ a x') :
    St K H0 ρ0 B O ρ (η.set i (.o x')) h σ (upd H a o) := by
  obtain ⟨a', ea', ho, hb, h0, _⟩ := S.own i x e
  rw [ea] at ea'
  cases ea'
  have hl := (List.getElem?_eq_some_iff.mp e).1
  have ex : Ext H (O ++ ρ) (upd H a o) (O ++ ρ) := ext_poke (List.mem_append_left _ ho)
  have hρ := S.sep a ho
  refine ⟨by rw [List.length_set, S.len], fun j y e1 => ?_, fun j y e1 => ?_, fun j k y z b e1 e2 e3 e4 => ?_, S.sep, fun b hb => ?_, S.bar, ⟨S.mh.len, S.mh.nd, fun k z b e1 e2 => (S.mh.at_ k z b e1 e2).to ex List.prefix_rfl fun q hq => ?_⟩, S.pre, S.new, fun b q e1 e2 => ?_, fun b q e1 => ?_⟩
  · by_cases hj : i = j
    · subst hj
      rw [List.getElem?_set_self hl] at e1
      cases e1
    · rw [List.getElem?_set_ne hj] at e1
      obtain ⟨z, e2, r⟩ := S.val j y e1
      exact ⟨z, e2, r.ext ex List.prefix_rfl⟩
  · by_cases hj : i = j
    · subst hj
      rw [List.getElem?_set_self hl] at e1
      cases e1
      exact ⟨a, ea, ho, hb, h0, w⟩
    · rw [List.getElem?_set_ne hj] at e1
      obtain ⟨b, e2, ho2, hb2, h02, w2⟩ := S.own j y e1
      refine ⟨b, e2, ho2, hb2, h02, w2.to ex List.prefix_rfl fun q hq => ?_⟩
      rw [upd_ne]; exact hq
      rintro rfl
      exact hj (S.inj i j x y b e e1 ea e2)
  · have f : ∀ {l : Nat} {y : Val}, (η.set i (.o x'))[l]? = some (.o y) → ∃ y', η[l]? = some (.o y') := fun {l y} e => by
      by_cases hj : i = l
      · subst hj; exact ⟨x, by assumption⟩
      · rw [List.getElem?_set_ne hj] at e; exact ⟨y, e⟩
    obtain ⟨y', e1⟩ := f e1
    obtain ⟨z', e2⟩ := f e2
    exact S.inj j k y' z' b e1 e2 e3 e4
  · by_cases hab : b = a
    · subst hab; exact ⟨o, upd_same⟩
    · rw [upd_ne hab]; exact S.liv b hb
  · rw [upd_ne]; exact hq
    rintro rfl
    exact hρ (List.mem_of_getElem? e2)
  · rw [upd_ne]; exact S.keep b q e1 e2
    rintro rfl
    rw [h0] at e1; cases e1
  · by_cases hab : b = a
    · subst hab; exact ⟨o, upd_same⟩
    · rw [upd_ne hab]; exact S.ali b q e1
theorem St.writeObj {a : Addr} {x' : Val} {n : Nat} {o : HO} (S : St K H0 ρ0 B O ρ η h σ H) (hn : n < h.length) (ea : ρ[n]? = some a) (w : Own K (upd H a o) (O ++ ρ) ρ a x') :
    St K H0 ρ0 B O ρ η (h.set n x') σ (upd H a o) := by
  have ha : a ∈ ρ := List.mem_of_getElem? ea
  have ex : Ext H (O ++ ρ) (upd H a o) (O ++ ρ) := ext_poke (List.mem_append_right _ ha)
  have hO : a ∉ O := fun q => S.sep a q ha
  refine ⟨S.len, fun j y e1 => ?_, fun j y e1 => ?_, S.inj, S.sep, fun b hb => ?_, S.bar, ⟨by rw [List.length_set]; exact S.mh.len, S.mh.nd, fun k z b e1 e2 => ?_⟩, S.pre, S.new, fun b q e1 e2 => ?_, fun b q e1 => ?_⟩
  · obtain ⟨z, e2, r⟩ := S.val j y e1
    exact ⟨z, e2, r.ext ex List.prefix_rfl⟩
  · obtain ⟨b, e2, ho2, hb2, h02, w2⟩ := S.own j y e1
    refine ⟨b, e2, ho2, hb2, h02, w2.to ex List.prefix_rfl fun q hq => ?_⟩
    rw [upd_ne]; exact hq
    rintro rfl
    exact hO ho2
  · by_cases hab : b = a
    · subst hab; exact ⟨o, upd_same⟩
    · rw [upd_ne hab]; exact S.liv b hb
  · by_cases hk : n = k
    · subst hk
      rw [List.getElem?_set_self hn] at e1
      cases e1
      rw [ea] at e2; cases e2
      exact w
    · rw [List.getElem?_set_ne hk] at e1
      refine (S.mh.at_ k z b e1 e2).to ex List.prefix_rfl fun q hq => ?_
      rw [upd_ne]; exact hq
      rintro rfl
      obtain ⟨l1, l2⟩ := List.getElem?_eq_some_iff.mp ea
      obtain ⟨l3, l4⟩ := List.getElem?_eq_some_iff.mp e2
      exact hk ((List.getElem_inj S.mh.nd).mp (l2.trans l4.symm))
  · rw [upd_ne]; exact S.keep b q e1 e2
    rintro rfl
    have := S.new b (mem_drop S.pre ha e2)
    rw [this] at e1; cases e1
  · by_cases hab : b = a
    · subst hab; exact ⟨o, upd_same⟩
    · rw [upd_ne hab]; exact S.ali b q e1
theorem Own.rep {a : Addr} {x : Val} {M : List Addr} (ha : a ∉ M) (w : Own K H M ρ a x) : Rep K (off H M) ρ (.ref a) x := by
  cases x with
  | lst vs => obtain ⟨Vs, e, r⟩ := w; exact .lst (SqL.of (off_some.mpr ⟨ha, e⟩)) r
  | dK ks vs => obtain ⟨Vs, e, l, n, k, r⟩ := w; exact .dK (off_some.mpr ⟨ha, e⟩) l n k r
  | dT ks vs => obtain ⟨Vs, e, l, n, r⟩ := w; exact .dT (off_some.mpr ⟨ha, e⟩) l n r
  | _ => exact w.elim
theorem St.frz1 {x : Val} {i : Nat} (S : St K H0 ρ0 B O ρ η h σ H) (e : η[i]? = some (Sl.o x)) : ∃ O', St K H0 ρ0 B O' ρ (η.set i (.v x)) h σ H ∧ Go O ρ H O' ρ H := by
  obtain ⟨a, ea, ho, hb, h0, w⟩ := S.own i x e
  have hl := (List.getElem?_eq_some_iff.mp e).1
  have mem : ∀ {b : Addr}, b ∈ O.filter (fun b => decide (b ≠ a)) ↔ b ∈ O ∧ b ≠ a := by
    intro b; simp
  have ex : Ext H (O ++ ρ) H (O.filter (fun b => decide (b ≠ a)) ++ ρ) := fun b q eq => by
    obtain ⟨n, eq⟩ := off_some.mp eq
    refine off_some.mpr ⟨?_, eq⟩
    rw [List.mem_append, not_or] at n ⊢
    exact ⟨fun hm => n.1 (mem.mp hm).1, n.2⟩
  have hn : a ∉ O.filter (fun b => decide (b ≠ a)) ++ ρ := by
    rw [List.mem_append, not_or]
    exact ⟨fun hm => (mem.mp hm).2 rfl, S.sep a ho⟩
  refine ⟨O.filter (fun b => decide (b ≠ a)), ⟨by rw [List.length_set, S.len], fun j y e1 => ?_, fun j y e1 => ?_, fun j k y z b e1 e2 e3 e4 => ?_, fun b q => S.sep b (mem.mp q).1, fun b q => S.liv b (mem.mp q).1, fun b q => mem.mpr ⟨S.bar b q, fun hab => hb (hab ▸ q)⟩, ⟨S.mh.len, S.mh.nd, fun k z b e1 e2 => (S.mh.at_ k z b e1 e2).to ex List.prefix_rfl fun _ q => q⟩, S.pre, S.new, S.keep, S.ali⟩, ⟨ex, List.prefix_rfl⟩⟩
  · by_cases hj : i = j
    · subst hj
      rw [List.getElem?_set_self hl] at e1
      cases e1
      exact ⟨.ref a, ea, (w.to ex List.prefix_rfl fun _ q => q).rep hn⟩
    · rw [List.getElem?_set_ne hj] at e1
      obtain ⟨z, e2, r⟩ := S.val j y e1
      exact ⟨z, e2, r.ext ex List.prefix_rfl⟩
  · by_cases hj : i = j
    · subst hj
      rw [List.getElem?_set_self hl] at e1
      cases e1
    · rw [List.getElem?_set_ne hj] at e1
      obtain ⟨b, e2, ho2, hb2, h02, w2⟩ := S.own j y e1
      refine ⟨b, e2, mem.mpr ⟨ho2, ?_⟩, hb2, h02, w2.to ex List.prefix_rfl fun _ q => q⟩
      rintro rfl
      exact hj (S.inj i j x y b e e1 ea e2)
  · have f : ∀ {l : Nat} {y : Val}, (η.set i (.v x))[l]? = some (.o y) → η[l]? = some (.o y) := fun {l y} e => by
      by_cases hj : i = l
      · subst hj
        rw [List.getElem?_set_self hl] at e
        cases e
      · rw [List.getElem?_set_ne hj] at e; exact e
    exact S.inj j k y z b (f e1) (f e2) e3 e4
theorem St.frzs (S : St K H0 ρ0 B O ρ η h σ H) : ∀ is : List Nat, ∃ O', St K H0 ρ0 B O' ρ (frz η is) h σ H ∧ Go O ρ H O' ρ H
  | [] => ⟨O, S, Go.refl⟩
  | i :: is => by
    obtain ⟨O1, S1, g1⟩ := S.frzs is
    unfold frz
    split
    · rename_i x e
      obtain ⟨O2, S2, g2⟩ := S1.frz1 e
      exact ⟨O2, S2, g1.trans g2⟩
    · exact ⟨O1, S1, g1⟩
end
end MP
set_option maxHeartbeats 4000000
set_option autoImplicit false
namespace MP
open PySem PySem.Spec PyProof.Rows L2
section
variable {κ : Type} [DecidableEq κ]
theorem putK_ne {p : κ × V} {r : List (κ × V)} {k : κ} {v : V} (h : p.1 ≠ k) : L2.putK (p :: r) k v = p :: L2.putK r k v := by
  unfold L2.putK
  rw [List.any_cons, decide_eq_false h, Bool.false_or]
  by_cases c : (r.any fun kv => decide (kv.1 = k)) = true
  · rw [if_pos c, if_pos c, List.map_cons, if_neg h]
  · rw [if_neg c, if_neg c, List.cons_append]
theorem putK_eq {p : κ × V} {r : List (κ × V)} {k : κ} {v : V} (h : p.1 = k) (hn : ∀ q ∈ r, q.1 ≠ k) : L2.putK (p :: r) k v = (p.1, v) :: r := by
  unfold L2.putK
  rw [List.any_cons, decide_eq_true h, Bool.true_or, if_pos rfl, List.map_cons, if_pos h]
  congr 1
  have : ∀ r : List (κ × V), (∀ q ∈ r, q.1 ≠ k) → r.map (fun kv => if kv.1 = k then (kv.1, v) else kv) = r := by
    intro r
    induction r with
    | nil => intro _; rfl
    | cons q r ih =>
      intro hq
      rw [List.map_cons, if_neg (hq q List.mem_cons_self), ih fun x hx => hq x (List.mem_cons_of_mem _ hx)]
  exact this r hn
end
theorem mem_zip_fst {κ : Type} : ∀ {ks : List κ} {Vs : List V} {q : κ × V}, q ∈ ks.zip Vs → q.1 ∈ ks
  | [], _, q, h => by simp at h
  | a :: ks, [], q, h => by simp at h
  | a :: ks, z :: Vs, q, h => by
    rw [List.zip_cons_cons] at h
    rcases List.mem_cons.mp h with rfl | h
    · exact List.mem_cons_self
    · exact List.mem_cons_of_mem _ (mem_zip_fst h)
theorem put_eq {κ : Type} [DecidableEq κ] {k : κ} {v w : Val} {ks : List κ} {vs : List Val} : put k v (k :: ks) (w :: vs) = (k :: ks, v :: vs) := by
  simp [put]
section
variable {K : KC} {H : Hp} {ρ : List Addr}
theorem put_mem {κ : Type} [DecidableEq κ] {k : κ} {v : Val} : ∀ {ks : List κ} {vs : List Val} {c : κ}, vs.length = ks.length → (c ∈ (put k v ks vs).1 ↔ c ∈ ks ∨ c = k)
  | [], vs, c, h => by cases vs <;> simp [put] at h ⊢
  | a :: ks, [], c, h => by simp at h
  | a :: ks, w :: vs, c, h => by
    by_cases e : a = k
    · subst e
      rw [put_eq]
      simp only [List.mem_cons]
      constructor
      · exact fun h => .inl h
      · rintro (h | h)
        · exact h
        · exact .inl h
    · simp only [put, if_neg e, List.mem_cons]
      rw [put_mem (by simpa using h)]
      constructor
      · rintro (h | h | h)
        · exact .inl (.inl h)
        · exact .inl (.inr h)
        · exact .inr h
      · rintro ((h | h) | h)
        · exact .inl h
        · exact .inr (.inl h)
        · exact .inr (.inr h)
theorem put_zip {κ κ' : Type} [DecidableEq κ] [DecidableEq κ'] (f : κ → κ') (inj : ∀ a b, f a = f b → a = b) {k : κ} {z : V} {v : Val} (rz : Rep K H ρ z v) : ∀ {ks : List κ} {Vs : List V} {vs : List Val}, Vs.length = ks.length → ks.Nodup → RepL K H ρ Vs vs →
    ∃ Vs', L2.putK ((ks.map f).zip Vs) (f k) z = ((put k v ks vs).1.map f).zip Vs' ∧ Vs'.length = (put k v ks vs).1.length ∧ (put k v ks vs).1.Nodup ∧ RepL K H ρ Vs' (put k v ks vs).2
  | [], [], _, _, _, .nil => ⟨[z], rfl, rfl, by simp [put], .cons rz .nil⟩
  | [], _ :: _, _, h, _, _ => by simp at h
  | _ :: _, [], _, h, _, _ => by simp at h
  | a :: ks, y :: Vs, _, h, nd, .cons (v := w) (vs := ws) r t => by
    rw [List.nodup_cons] at nd
    have hl : ws.length = ks.length := by rw [← t.length]; simpa using h
    by_cases e : a = k
    · subst e
      refine ⟨z :: Vs, ?_, ?_, ?_, ?_⟩
      · rw [put_eq]
        simp only [List.map_cons, List.zip_cons_cons]
        rw [putK_eq rfl]
        intro q hq hf
        obtain ⟨c, hc, hfc⟩ := List.mem_map.mp (mem_zip_fst hq)
        have : c = a := inj _ _ (hfc.trans hf)
        subst this
        exact nd.1 hc
      · rw [put_eq]; simpa using h
      · rw [put_eq]
        exact List.nodup_cons.mpr nd
      · rw [put_eq]
        exact .cons rz t
    · obtain ⟨Vs', e1, e2, e3, e4⟩ := put_zip f inj (k := k) rz (ks := ks) (Vs := Vs) (by simpa using h) nd.2 t
      refine ⟨y :: Vs', ?_, ?_, ?_, ?_⟩
      · simp only [put, if_neg e, List.map_cons, List.zip_cons_cons]
        rw [putK_ne (fun q => e (inj _ _ q)), e1]
      · simp only [put, if_neg e, List.length_cons, e2]
      · simp only [put, if_neg e, List.nodup_cons]
        refine ⟨fun hm => ?_, e3⟩
        rcases (put_mem hl).mp hm with hm | hm
        · exact nd.1 hm
        · exact e hm
      · simp only [put, if_neg e]
        exact .cons r e4
end
def rPut : TSet := fun o i v H Q => ∃ a, o = .ref a ∧ ((∃ xs k j, i = .int k ∧ H a = some (.lst xs) ∧ L2.ixN xs.length k = some j ∧ Q (upd H a (.lst (xs.set j v)))) ∨ ∃ H', DPut H a i v H' ∧ Q H')
theorem p_put {X : Cx} (hu : X.A.units + 1 < cLine) : PSet X rPut := by
  intro pins s σ H o i v ov iv u Q I ro ri rv h
  obtain ⟨a, rfl, ⟨xs, k, j, rfl, h1, h2, q⟩ | ⟨H', g, q⟩⟩ := h
  · exact set_list pins s σ H _ _ v ov iv u Q I ro ri rv ⟨a, xs, k, j, rfl, rfl, h1, h2, q⟩
  · cases ro
    exact d_setItem hu I g ri rv fun s' I' => ⟨H', I', q⟩
section
variable {K : KC} {H : Hp} {O ρ : List Addr}
theorem put_ok {a : Addr} {d d' k v : Val} {i z : V} {b : Bool} (w : Own K H (O ++ ρ) ρ a d) (ha : a ∈ O ++ ρ) (ri : RepB K H O ρ b i k) (rv : Rep K (off H (O ++ ρ)) ρ z v) (e : putV K.ck d k v = some d') :
    ∃ o, (∀ Q : Hp → Prop, Q (upd H a o) → rPut (.ref a) i z H Q) ∧ Own K (upd H a o) (O ++ ρ) ρ a d' := by
  have ex : ∀ {o : HO}, Ext H (O ++ ρ) (upd H a o) (O ++ ρ) := fun {o} => ext_poke ha
  unfold putV at e
  split at e
  · rename_i l j
    obtain ⟨Vs, e1, r⟩ := w
    obtain rfl := ri.int_
    obtain ⟨n, en, rfl⟩ := Option.map_eq_some_iff.mp e
    refine ⟨.lst (Vs.set n z), fun Q q => ⟨a, rfl, .inl ⟨Vs, j, n, rfl, e1, ?_, q⟩⟩, Vs.set n z, upd_same, (r.set rv n).ext ex List.prefix_rfl⟩
    rw [r.length, ← ixN_eq]; exact en
  · rename_i ks vs
    obtain ⟨Vs, e1, hl, nd, ok, r⟩ := w
    obtain ⟨c, ec, e⟩ := Option.bind_eq_some_iff.mp e
    split at e
    · rename_i hz
      injection e with e; subst e
      obtain ⟨rfl, okc⟩ := keyOf_rep ri ec
      obtain ⟨Vs', p1, p2, p3, p4⟩ := put_zip toKey (fun _ _ h => toKey_inj h) rv (k := c) hl nd r
      refine ⟨.dK (((put c v ks vs).1.map toKey).zip Vs'), fun Q q => ⟨a, rfl, .inr ⟨_, .inl ⟨_, toKey c, e1, rfl, ?_, rfl⟩, ?_⟩⟩, Vs', upd_same, p2, p3, fun k' hk' s hs => ?_, p4.ext ex List.prefix_rfl⟩
      · rw [List.length_zip, List.length_map, hl, Nat.min_self, ← sz_line]; exact hz
      · rw [p1]; exact q
      · rcases (put_mem (by rw [← r.length]; exact hl)).mp hk' with h | h
        · exact ok k' h s hs
        · exact okc s (h ▸ hs)
    · cases e
  · rename_i ks vs l
    obtain ⟨Vs, e1, hl, nd, r⟩ := w
    obtain ⟨c, ec, e⟩ := Option.bind_eq_some_iff.mp e
    split at e
    · rename_i hz
      injection e with e; subst e
      have rk : ∃ p Ws, i = .ref p ∧ H p = some (.tup Ws) ∧ RepL K (off H (O ++ ρ)) ρ Ws l := by
        rcases ri with ri | ⟨_, _, _, _, _, w⟩
        · cases ri with
          | tup h r => exact ⟨_, _, rfl, (off_some.mp h).2, r⟩
          | tupK h c' r => have := c' c ec; rw [hz.2] at this; cases this
        · exact w.elim
      obtain ⟨p, Ws, rfl, hp, rw'⟩ := rk
      have ek := keysOf_rep rw' ec
      subst ek
      obtain ⟨Vs', p1, p2, p3, p4⟩ := put_zip (fun x : List Ky => x.map toKey) (fun a b h => toKeys_inj a b h) rv (k := c) hl nd r
      refine ⟨.dT (((put c v ks vs).1.map (·.map toKey)).zip Vs'), fun Q q => ⟨a, rfl, .inr ⟨_, .inr ⟨_, c.map toKey, p, e1, rfl, hp, ?_, rfl⟩, ?_⟩⟩, Vs', upd_same, p2, p3, p4.ext ex List.prefix_rfl⟩
      · rw [List.length_zip, List.length_map, hl, Nat.min_self, ← sz_line]; exact hz.1
      · rw [p1]; exact q
    · cases e
  · cases e
end
end MP
set_option maxHeartbeats 4000000
set_option autoImplicit false
namespace MP
open PySem PySem.Spec PyProof.Rows L2
section
variable (K : KC)
def SlR (H0 : Hp) (B O ρ : List Addr) (η : Env) (σ : L2.St) (H : Hp) (z : V) : Sl → Prop
  | .v x => Rep K (off H (O ++ ρ)) ρ z x
  | .o x => ∃ a, z = .ref a ∧ a ∈ O ∧ a ∉ B ∧ H0 a = none ∧ (∀ (j : Nat) (y : Val), η[j]? = some (Sl.o y) → σ[j]? ≠ some (some (V.ref a))) ∧ Own K H (O ++ ρ) ρ a x
  | .e => False
def ads : List V → List Sl → List Addr
  | .ref a :: zs, .o _ :: ss => a :: ads zs ss
  | _ :: zs, _ :: ss => ads zs ss
  | _, _ => []
inductive SlRs (H0 : Hp) (B O ρ : List Addr) (η : Env) (σ : L2.St) (H : Hp) : List V → List Sl → Prop
  | nil : SlRs H0 B O ρ η σ H [] []
  | cons {z : V} {s : Sl} {zs : List V} {ss : List Sl} (h : SlR K H0 B O ρ η σ H z s) (r : SlRs H0 B O ρ η σ H zs ss) : SlRs H0 B O ρ η σ H (z :: zs) (s :: ss)
def PR (W : WX) (H0 : Hp) (ρ0 B O ρ : List Addr) (η : Env) (σ : L2.St) (H : Hp) (Q : V → Hp → Prop) : Res Sl → Prop
  | .ok s h' => ∀ (z : V) (O' ρ' : List Addr) (H' : Hp), St K H0 ρ0 B O' ρ' η h' σ H' → Mv O ρ H O' ρ' H' → SlR K H0 B O' ρ' η σ H' z s → (∀ a, a ∈ ads [z] [s] → a ∉ O) → Q z H'
  | .exc x h' => ∀ (cls : Value) (d : Option Addr) (ρ' : List Addr) (H' : Hp), Grow ρ H ρ' H' → MHR K H' (O ++ ρ') ρ' h' → ExcR K H' (O ++ ρ') ρ' cls d x → W cls d σ H'
  | .bad => False
def PRs (W : WX) (H0 : Hp) (ρ0 B O ρ : List Addr) (η : Env) (σ : L2.St) (H : Hp) (Q : List V → Hp → Prop) : Res (List Sl) → Prop
  | .ok ss h' => ∀ (zs : List V) (O' ρ' : List Addr) (H' : Hp), St K H0 ρ0 B O' ρ' η h' σ H' → Mv O ρ H O' ρ' H' → SlRs K H0 B O' ρ' η σ H' zs ss → (ads zs ss).Nodup → (∀ a, a ∈ ads zs ss → a ∉ O) → Q zs H'
  | .exc x h' => ∀ (cls : Value) (d : Option Addr) (ρ' : List Addr) (H' : Hp), Grow ρ H ρ' H' → MHR K H' (O ++ ρ') ρ' h' → ExcR K H' (O ++ ρ') ρ' cls d x → W cls d σ H'
  | .bad => False
def PF (W : WX) (H0 : Hp) (ρ0 B O ρ : List Addr) (H : Hp) (D : Ends) : Res Fl → Prop
  | .ok (.nx η') h' => ∀ (O' ρ' : List Addr) (σ' : L2.St) (H' : Hp), St K H0 ρ0 B O' ρ' η' h' σ' H' → Go O ρ H O' ρ' H' → D.nx σ' H'
  | .ok (.bk η') h' => ∀ (O' ρ' : List Addr) (σ' : L2.St) (H' : Hp), St K H0 ρ0 B O' ρ' η' h' σ' H' → Go O ρ H O' ρ' H' → D.bk σ' H'
  | .ok (.ct η') h' => ∀ (O' ρ' : List Addr) (σ' : L2.St) (H' : Hp), St K H0 ρ0 B O' ρ' η' h' σ' H' → Go O ρ H O' ρ' H' → D.ct σ' H'
  | .ok (.rt v) h' => ∀ (z : V) (ρ' : List Addr) (H' : Hp), Grow ρ0 H0 ρ' H' → MHR K H' (B ++ ρ') ρ' h' → Rep K (off H' (B ++ ρ')) ρ' z v → D.rt z H'
  | .exc x h' => ∀ (cls : Value) (d : Option Addr) (σ' : L2.St) (ρ' : List Addr) (H' : Hp), Grow ρ0 H0 ρ' H' → MHR K H' (B ++ ρ') ρ' h' → ExcR K H' (B ++ ρ') ρ' cls d x → W cls d σ' H'
  | .bad => False
variable (W : WX) (T : Nat → Fn) (ck : List (List Ky))
def tR (r : R) : TE := fun σ H Q => ∃ H0 ρ0 B O ρ η h, St K H0 ρ0 B O ρ η h σ H ∧ PR K W H0 ρ0 B O ρ η σ H Q (evR T r η h)
def tRs (rs : List R) : TA := fun σ H Q => ∃ H0 ρ0 B O ρ η h, St K H0 ρ0 B O ρ η h σ H ∧ PRs K W H0 ρ0 B O ρ η σ H Q (evRs T rs η h)
def tS (s : S) : TS := fun D σ H => ∃ H0 ρ0 B O ρ η h, St K H0 ρ0 B O ρ η h σ H ∧ PF K W H0 ρ0 B O ρ H D (evS T K.ck s η h)
end
section
variable {K : KC} {W : WX} {T : Nat → Fn} {H0 H H' H1 H2 : Hp} {ρ0 B O O' O1 O2 ρ ρ' ρ1 ρ2 : List Addr} {η : Env} {h h' h1 : MH} {σ : L2.St} {D : Ends}
theorem ext_sub {M M' : List Addr} (s : ∀ a, a ∈ M' → a ∈ M) : Ext H M H M' := fun a o e => by
  obtain ⟨n, e⟩ := off_some.mp e
  exact off_some.mpr ⟨fun q => n (s a q), e⟩
theorem sub_app (s : ∀ a, a ∈ O → a ∈ O') : ∀ a, a ∈ O ++ ρ → a ∈ O' ++ ρ := fun a q => by
  rcases List.mem_append.mp q with q | q
  · exact List.mem_append_left _ (s a q)
  · exact List.mem_append_right _ q
theorem MHR.less (s : ∀ a, a ∈ O → a ∈ O') (m : MHR K H (O' ++ ρ) ρ h) : MHR K H (O ++ ρ) ρ h := ⟨m.len, m.nd, fun k o a e1 e2 => (m.at_ k o a e1 e2).to (ext_sub (sub_app s)) List.prefix_rfl fun _ q => q⟩
theorem Rep.less (s : ∀ a, a ∈ O → a ∈ O') {z : V} {v : Val} (r : Rep K (off H (O' ++ ρ)) ρ z v) : Rep K (off H (O ++ ρ)) ρ z v := r.ext (ext_sub (sub_app s)) List.prefix_rfl
theorem ExcR.less (s : ∀ a, a ∈ O → a ∈ O') {cls : Value} {d : Option Addr} {x : Exn} (e : ExcR K H (O' ++ ρ) ρ cls d x) : ExcR K H (O ++ ρ) ρ cls d x := by
  obtain ⟨e1, dd, z, e2, e3, r⟩ := e
  exact ⟨e1, dd, z, e2, e3, r.less s⟩
theorem PF.shift {r : Res Fl} (g : Go O ρ H O1 ρ1 H1) (p : PF K W H0 ρ0 B O ρ H D r) : PF K W H0 ρ0 B O1 ρ1 H1 D r := by
  cases r with
  | ok v h' =>
    cases v with
    | nx η => exact fun O' ρ' σ' H' S' g' => p O' ρ' σ' H' S' (g.trans g')
    | bk η => exact fun O' ρ' σ' H' S' g' => p O' ρ' σ' H' S' (g.trans g')
    | ct η => exact fun O' ρ' σ' H' S' g' => p O' ρ' σ' H' S' (g.trans g')
    | rt v => exact p
  | exc x h' => exact p
  | bad => exact p
theorem PF.bind {α β : Type} {r : Res α} {f : α → MH → Res Fl} {Rel : Hp → List Addr → β → α → Prop} {Q : β → Hp → Prop} (S : St K H0 ρ0 B O ρ η h σ H) (p : PF K W H0 ρ0 B O ρ H D (r.bind f))
    (k : ∀ (z : β) (v : α) (ρ1 : List Addr) (H1 : Hp) (h1 : MH), Grow ρ H ρ1 H1 → St K H0 ρ0 B O ρ1 η h1 σ H1 → Rel H1 ρ1 z v → PF K W H0 ρ0 B O ρ1 H1 D (f v h1) → Q z H1) : Pst K W σ O ρ H Rel Q r := by
  cases r with
  | ok v h' => exact fun z ρ' H' g m rl => k z v ρ' H' h' g (S.grow g m) rl (PF.shift g.go p)
  | exc x h' => exact fun cls d ρ' H' g m e => p cls d σ ρ' H' (S.grown.trans g) (m.less S.bar) (e.less S.bar)
  | bad => exact p
theorem PF.bindR {r : Res Sl} {f : Sl → MH → Res Fl} {Q : V → Hp → Prop} (S : St K H0 ρ0 B O ρ η h σ H) (p : PF K W H0 ρ0 B O ρ H D (r.bind f))
    (k : ∀ (z : V) (s : Sl) (O1 ρ1 : List Addr) (H1 : Hp) (h1 : MH), St K H0 ρ0 B O1 ρ1 η h1 σ H1 → SlR K H0 B O1 ρ1 η σ H1 z s → PF K W H0 ρ0 B O1 ρ1 H1 D (f s h1) → Q z H1) : PR K W H0 ρ0 B O ρ η σ H Q r := by
  cases r with
  | ok v h' => exact fun z O' ρ' H' S' m rl _ => k z v O' ρ' H' h' S' rl (PF.shift m.go p)
  | exc x h' => exact fun cls d ρ' H' g m e => p cls d σ ρ' H' (S.grown.trans g) (m.less S.bar) (e.less S.bar)
  | bad => exact p
theorem PF.bindRs {r : Res (List Sl)} {f : List Sl → MH → Res Fl} {Q : List V → Hp → Prop} (S : St K H0 ρ0 B O ρ η h σ H) (p : PF K W H0 ρ0 B O ρ H D (r.bind f))
    (k : ∀ (zs : List V) (ss : List Sl) (O1 ρ1 : List Addr) (H1 : Hp) (h1 : MH), St K H0 ρ0 B O1 ρ1 η h1 σ H1 → SlRs K H0 B O1 ρ1 η σ H1 zs ss → (ads zs ss).Nodup → PF K W H0 ρ0 B O1 ρ1 H1 D (f ss h1) → Q zs H1) : PRs K W H0 ρ0 B O ρ η σ H Q r := by
  cases r with
  | ok v h' => exact fun z O' ρ' H' S' m rl nd _ => k z v O' ρ' H' h' S' rl nd (PF.shift m.go p)
  | exc x h' => exact fun cls d ρ' H' g m e => p cls d σ ρ' H' (S.grown.trans g) (m.less S.bar) (e.less S.bar)
  | bad => exact p
theorem PF.opt {α : Type} {o : Option α} {f : α → MH → Res Fl} (p : PF K W H0 ρ0 B O ρ H D ((opt o h).bind f)) : ∃ v, o = some v ∧ PF K W H0 ρ0 B O ρ H D (f v h) := by
  cases o with
  | none => exact p.elim
  | some v => exact ⟨v, rfl, p⟩
theorem PF.nx {η' : Env} (p : PF K W H0 ρ0 B O ρ H D (.ok (.nx η') h')) (S : St K H0 ρ0 B O ρ η' h' σ H) : D.nx σ H := p O ρ σ H S Go.refl
theorem setv_ok {i : Nat} {z : V} {s : Sl} {η' : Env} (S : St K H0 ρ0 B O ρ η h σ H) (r : SlR K H0 B O ρ η σ H z s) (e : setv η i s = some η') : St K H0 ρ0 B O ρ η' h (σ.set i (some z)) H := by
  unfold setv at e
  split at e
  · injection e with e; subst e
    cases s with
    | e => exact r.elim
    | v x => exact S.set r
    | o x =>
      obtain ⟨a, rfl, ho, hb, h0, un, w⟩ := r
      exact S.take ho hb h0 un w
  · cases e
theorem SlR.mv {z : V} {s : Sl} (m : Mv O ρ H O1 ρ1 H1) (S : St K H0 ρ0 B O ρ η h σ H) (r : SlR K H0 B O ρ η σ H z s) : SlR K H0 B O1 ρ1 η σ H1 z s := by
  cases s with
  | e => exact r
  | v x => exact Rep.ext m.ext m.pre r
  | o x =>
    obtain ⟨a, rfl, ho, hb, h0, un, w⟩ := r
    exact ⟨a, rfl, m.sub a ho, hb, h0, un, w.to m.ext m.pre fun o q => m.grow.keep a o q (S.sep a ho)⟩
theorem ads_cons {z : V} {s : Sl} {zs : List V} {ss : List Sl} : ads (z :: zs) (s :: ss) = ads [z] [s] ++ ads zs ss := by
  cases z <;> cases s <;> rfl
theorem SlRs.keep {i : Nat} {z : V} {s : Sl} : ∀ {zs : List V} {ss : List Sl}, SlRs K H0 B O ρ η σ H zs ss → i < σ.length → (∀ a, a ∈ ads zs ss → a ∉ ads [z] [s]) → SlRs K H0 B O ρ (η.set i s) (σ.set i (some z)) H zs ss
  | _, _, .nil, _, _ => .nil
  | _, _, .cons (z := y) (s := t) r rs, hl, hn => by
    refine .cons ?_ (SlRs.keep rs hl fun a ha => hn a (by rw [ads_cons]; exact List.mem_append_right _ ha))
    cases t with
    | e => exact r
    | v x => exact r
    | o x =>
      obtain ⟨a, rfl, ho, hb, h0, un, w⟩ := r
      refine ⟨a, rfl, ho, hb, h0, fun j y ej es => ?_, w⟩
      by_cases hj : i = j
      · subst hj
        rw [List.getElem?_set_self hl] at es
        cases es
        have hle : i < η.length := by
          have := (List.getElem?_eq_some_iff.mp ej).1
          simpa using this
        rw [List.getElem?_set_self hle] at ej
        cases ej
        exact hn a (by simp [ads]) (by simp [ads])
      · rw [List.getElem?_set_ne hj] at ej es
        exact un j y ej es
theorem setvs_ok {Q : L2.St → Hp → Prop} : ∀ {is : List Nat} {zs : List V} {ss : List Sl} {η η' : Env} {σ : L2.St}, St K H0 ρ0 B O ρ η h σ H → SlRs K H0 B O ρ η σ H zs ss → (ads zs ss).Nodup → setvs η is ss = some η' →
    (∀ σ', St K H0 ρ0 B O ρ η' h σ' H → Q σ' H) → gNs is zs σ H Q
  | [], _, _, η, η', σ, S, .nil, _, e, k => by
    simp only [setvs, Option.some.injEq] at e
    subst e
    exact ⟨rfl, k σ S⟩
  | [], _, _, η, η', σ, S, .cons _ _, _, e, k => by simp [setvs] at e
  | i :: is, _, _, η, η', σ, S, .nil, _, e, k => by simp [setvs] at e
  | i :: is, _, _, η, η', σ, S, .cons (z := z) (s := s) r rs, nd, e, k => by
    simp only [setvs] at e
    obtain ⟨η1, e1, e2⟩ := Option.bind_eq_some_iff.mp e
    have S1 := setv_ok S r e1
    have hη : η1 = η.set i s ∧ i < η.length := by
      unfold setv at e1
      split at e1
      · injection e1 with e1; exact ⟨e1.symm, by assumption⟩
      · cases e1
    obtain ⟨rfl, hl⟩ := hη
    rw [ads_cons, List.nodup_append] at nd
    exact ⟨z, _, rfl, setvs_ok S1 (rs.keep (by rw [S.len]; exact hl) fun a ha hb => nd.2.2 a hb a ha rfl) nd.2.1 e2 k⟩
end
end MP
set_option maxHeartbeats 4000000
set_option autoImplicit false
namespace MP
open PySem PySem.Spec PyProof.Rows L2
section
variable {K : KC} {W : WX} {T : Nat → Fn} {H0 H H' H1 H2 : Hp} {ρ0 B O O' O1 O2 ρ ρ' ρ1 ρ2 : List Addr} {η : Env} {h h' h1 : MH} {σ : L2.St} {D : Ends}
theorem PR.shift {Q : V → Hp → Prop} {r : Res Sl} (m : Mv O ρ H O1 ρ1 H1) (p : PR K W H0 ρ0 B O ρ η σ H Q r) : PR K W H0 ρ0 B O1 ρ1 η σ H1 Q r := by
  cases r with
  | ok s h' => exact fun z O' ρ' H' S' m' rl f => p z O' ρ' H' S' (m.trans m') rl fun a ha q => f a ha (m.sub a q)
  | exc x h' => exact fun cls d ρ' H' g mh e => p cls d ρ' H' (m.grow.trans g) (mh.less m.sub) (e.less m.sub)
  | bad => exact p
theorem PR.bind {α β : Type} {r : Res α} {f : α → MH → Res Sl} {Rel : Hp → List Addr → β → α → Prop} {Q : V → Hp → Prop} {Q' : β → Hp → Prop} (S : St K H0 ρ0 B O ρ η h σ H) (p : PR K W H0 ρ0 B O ρ η σ H Q (r.bind f))
    (k : ∀ (z : β) (v : α) (ρ1 : List Addr) (H1 : Hp) (h1 : MH), Grow ρ H ρ1 H1 → St K H0 ρ0 B O ρ1 η h1 σ H1 → Rel H1 ρ1 z v → PR K W H0 ρ0 B O ρ1 η σ H1 Q (f v h1) → Q' z H1) : Pst K W σ O ρ H Rel Q' r := by
  cases r with
  | ok v h' => exact fun z ρ' H' g m rl => k z v ρ' H' h' g (S.grow g m) rl (PR.shift g.mv p)
  | exc x h' => exact p
  | bad => exact p
theorem PR.fresh {Q : V → Hp → Prop} {v : Val} {a : Addr} {o : HO} (S : St K H0 ρ0 B O ρ η h σ H) (p : PR K W H0 ρ0 B O ρ η σ H Q (.ok (.o v) h)) (ha : H a = none) (w : Own K (upd H a o) ((a :: O) ++ ρ) ρ a v) : Q (.ref a) (upd H a o) := by
  have nO : a ∉ O := fun q => by obtain ⟨o', e'⟩ := S.liv a q; rw [ha] at e'; cases e'
  refine p (.ref a) (a :: O) ρ _ (S.bar1 ha) (mv_bar1 ha) ⟨a, rfl, List.mem_cons_self, fun q => nO (S.bar a q), ?_, fun j y ej es => ?_, w⟩ fun b hb q => ?_
  · cases q : H0 a with
    | none => rfl
    | some u => obtain ⟨o', e'⟩ := S.ali a u q; rw [ha] at e'; cases e'
  · obtain ⟨b, e1, ho, _⟩ := S.own j y ej
    rw [e1] at es; cases es
    exact nO ho
  · simp only [ads, List.mem_singleton] at hb
    subst hb
    exact nO q
end
section
variable {X : Cx} {ck : List (List Ky)} {W : WX} {T : Nat → Fn}
theorem r_e {e : E} {ee : Expr} (he : PE X ee (tE (kc X ck) W T false e)) : PE X ee (tR (kc X ck) W T (.e e)) := by
  refine PE.imp he fun pins s σ H Q I ⟨H0, ρ0, B, O, ρ, η, h, S, p⟩ => ?_
  exact ⟨H0, ρ0, B, O, ρ, η, h, S, PR.bind S p fun z v ρ1 H1 h1 g S1 r p1 => p1 z O ρ1 H1 S1 Mv.refl r.ff fun a ha => by cases z <;> simp [ads] at ha⟩
theorem r_lst {es : Es} {ees : List Expr} {pos : Pos} (ha : PA X ees (tEs (kc X ck) W T es)) : PE X (.List ees pos) (tR (kc X ck) W T (.lst es)) := by
  refine PE.imp (pe_lst ha) fun pins s σ H Q I ⟨H0, ρ0, B, O, ρ, η, h, S, p⟩ => ?_
  have p' : PR (kc X ck) W H0 ρ0 B O ρ η σ H Q ((evEs T es η h).bind fun vs h1 => (if vs.length ≤ sz then Res.ok (Val.lst vs) h1 else .bad).bind fun v h1 => .ok (.o v) h1) := by
    rw [← bind_assoc]; exact p
  refine ⟨H0, ρ0, B, O, ρ, η, h, S, PR.bind S p' fun zs vs ρ1 H1 h1 g S1 r p1 => ?_⟩
  by_cases hz : vs.length ≤ sz
  · rw [if_pos hz] at p1
    refine ⟨by rw [r.length, ← sz_line]; exact hz, fun a hA => PR.fresh S1 p1 hA ⟨zs, upd_same, r.ext (ext_bar1 hA) List.prefix_rfl⟩⟩
  · rw [if_neg hz] at p1; exact p1.elim
theorem r_dK {pos : Pos} : PE X (.Dict [] [] pos) (tR (kc X ck) W T .dK) :=
  PE.imp pe_dnewK fun pins s σ H Q I ⟨H0, ρ0, B, O, ρ, η, h, S, p⟩ => fun a hA => PR.fresh S p hA ⟨[], upd_same, rfl, List.nodup_nil, fun k hk => by simp at hk, .nil⟩
theorem r_dT {pos : Pos} : PE X (.Dict [] [] pos) (tR (kc X ck) W T .dT) :=
  PE.imp pe_dnewT fun pins s σ H Q I ⟨H0, ρ0, B, O, ρ, η, h, S, p⟩ => fun a hA => PR.fresh S p hA ⟨[], upd_same, rfl, List.nodup_nil, .nil⟩
theorem lc_noexc {own : List Nat} {tg : Tg} {cond : Op} {elt : E} {η : Env} : ∀ (xs : List Val) (h1 : MH) (x : Exn) (h' : MH), mapR (turnLc T own tg cond elt η) xs h1 ≠ .exc x h' := by
  intro xs
  induction xs with
  | nil => intro h1 x h' e; simp [mapR] at e
  | cons y ys ih =>
    intro h1 x h' e
    simp only [mapR] at e
    obtain ⟨η', c, h2, _, _, rest⟩ := turn_cases e (by simp)
    rcases rest with ⟨_, e2⟩ | ⟨_, v, h3, _, e2⟩
    · cases e3 : mapR (turnLc T own tg cond elt η) ys h2 with
      | ok => rw [e3] at e2; simp at e2
      | exc => exact ih _ _ _ e3
      | bad => rw [e3] at e2; simp at e2
    · cases e3 : mapR (turnLc T own tg cond elt η) ys h3 with
      | ok => rw [e3] at e2; simp at e2
      | exc => exact ih _ _ _ e3
      | bad => rw [e3] at e2; simp at e2
theorem lc_readsR {it : MP.It} {own : List (PySem.Str × Nat)} {tg : Tg} {cond : Op} {elt : E} (hown : ∀ i ∈ tgIx tg, i ∈ own.map (·.2)) {σ : L2.St} {H : Hp} {Q : VK}
    (q : tR (kc X ck) W T (.lc (own.map (·.2)) tg it cond elt) σ H Q) : tLc (tIt (kc X ck) W T true it) (gT X.K tg) (tCd (kc X ck) (fun _ _ _ _ => False) T cond) (tE (kc X ck) (fun _ _ _ _ => False) T false elt) (own.map (·.2)) σ H Q := by
  obtain ⟨H0, ρ0, B, O, ρ, η, h, S, p⟩ := q
  have p' : PR (kc X ck) W H0 ρ0 B O ρ η σ H Q ((evIt T true it η h).bind fun xs h1 => ((mapR (turnLc T (own.map (·.2)) tg cond elt η) xs h1).bind fun vs h2 => .ok (.lst vs) h2).bind fun v h1 => .ok (.o v) h1) := by
    rw [← bind_assoc]; exact p
  refine ⟨H0, ρ0, B, O, ρ, η, h, S, PR.bind S p' fun J xs ρ1 H1 h1 g S1 ⟨wk, hz⟩ p1 => ?_⟩
  cases er : mapR (turnLc T (own.map (·.2)) tg cond elt η) xs h1 with
  | bad => rw [er] at p1; exact p1.elim
  | exc x h' => exact absurd er (lc_noexc xs h1 x h')
  | ok vs h2 =>
    rw [er] at p1
    refine lc_body S1 wk hz hown (fun vs' h2' Vs Da ρ2 H2 e2 g2 m2 hD hn hDl rl => ?_) ⟨vs, h2, er⟩
    rw [er] at e2
    injection e2 with q1 q2
    subst q1 q2
    have nO : Da ∉ O := fun q => hn (List.mem_append_left _ q)
    have nρ : Da ∉ ρ2 := fun q => hn (List.mem_append_right _ q)
    have mv : Mv O ρ1 H1 (Da :: O) ρ2 H2 := ⟨fun _ q => List.mem_cons_of_mem _ q, g2, fun a q n => by
      rcases List.mem_cons.mp q with rfl | q
      · exact hD
      · exact absurd q n⟩
    have S2 : St (kc X ck) H0 ρ0 B (Da :: O) ρ2 η h2 σ H2 := S1.mv mv (fun a q => by
        rcases List.mem_cons.mp q with rfl | q
        · exact nρ
        · intro q2
          obtain ⟨o, e⟩ := S1.liv a q
          exact g2.old e (S1.sep a q) q2) (fun a q => by
        rcases List.mem_cons.mp q with rfl | q
        · exact ⟨_, hDl⟩
        · obtain ⟨o, e⟩ := S1.liv a q
          exact g2.liv a o e) m2
    refine p1 (.ref Da) (Da :: O) ρ2 H2 S2 mv ⟨Da, rfl, List.mem_cons_self, fun q => nO (S1.bar Da q), ?_, fun j y ej es => ?_, Vs, hDl, rl⟩ fun b hb q => ?_
    · cases q : H0 Da with
      | none => rfl
      | some u => obtain ⟨o', e'⟩ := S1.ali Da u q; rw [hD] at e'; cases e'
    · obtain ⟨b, e1, ho, _⟩ := S1.own j y ej
      rw [e1] at es; cases es
      exact nO ho
    · simp only [ads, List.mem_singleton] at hb
      subst hb
      exact nO q
theorem r_lc {it : MP.It} {own : List (PySem.Str × Nat)} {tg : Tg} {cond : Op} {elt : E} {eelt etg eit : Expr} {ifs : List Expr} {scope : Scope} {pos : Pos} (hc : X.calm = true) (hN : X.N.Nodup) (hi : PI X etg eit (tIt (kc X ck) W T true it)) (ok : BlkOk X.N X.env.scope scope own) (hown : ∀ i ∈ tgIx tg, i ∈ own.map (·.2))
    (hg : InBlk X scope fun X' => PG X' etg (gT X'.K tg)) (ht : InBlk X scope fun X' => PTs X' ifs (tCd (kc X' ck) (fun _ _ _ _ => False) T cond)) (he : InBlk X scope fun X' => PE X' eelt (tE (kc X' ck) (fun _ _ _ _ => False) T false elt)) (hs : ∀ x, foldedSetIterable eit X.env x = pure x) :
    PE X (.ListComp eelt [⟨etg, eit, ifs, 0⟩] scope pos) (tR (kc X ck) W T (.lc (own.map (·.2)) tg it cond elt)) :=
  PE.imp (pe_lc (g := gT X.K tg) (tt := tCd (kc X ck) (fun _ _ _ _ => False) T cond) (te := tE (kc X ck) (fun _ _ _ _ => False) T false elt) hc hN hi ok (fun s H C cl fp => hg s H C cl fp) (fun s H C cl fp => ht s H C cl fp) (fun s H C cl fp => he s H C cl fp) hs) fun pins s σ H Q I q => lc_readsR hown q
end
end MP
set_option maxHeartbeats 4000000
set_option autoImplicit false
namespace MP
open PySem PySem.Spec PyProof.Rows L2
section
variable {X : Cx} {ck : List (List Ky)} {W : WX} {T : Nat → Fn}
theorem a_rnil : PA X [] (tRs (kc X ck) W T []) := PA.imp pa_nil fun pins s σ H Q I ⟨H0, ρ0, B, O, ρ, η, h, S, p⟩ => p [] O ρ H S Mv.refl .nil List.nodup_nil fun a ha => by simp [ads] at ha
theorem SlRs.mv {K : KC} {H0 H H1 : Hp} {ρ0 B O O1 ρ ρ1 : List Addr} {η : Env} {σ : L2.St} {h : MH} (m : Mv O ρ H O1 ρ1 H1) (S : St K H0 ρ0 B O ρ η h σ H) : ∀ {zs : List V} {ss : List Sl}, SlRs K H0 B O ρ η σ H zs ss → SlRs K H0 B O1 ρ1 η σ H1 zs ss
  | _, _, .nil => .nil
  | _, _, .cons r rs => .cons (r.mv m S) (SlRs.mv m S rs)
theorem ads_in {K : KC} {H0 H : Hp} {B O ρ : List Addr} {η : Env} {σ : L2.St} {z : V} {s : Sl} (r : SlR K H0 B O ρ η σ H z s) : ∀ a, a ∈ ads [z] [s] → a ∈ O := fun a ha => by
  cases s with
  | e => exact r.elim
  | v x => cases z <;> simp [ads] at ha
  | o x =>
    obtain ⟨b, rfl, ho, _⟩ := r
    simp only [ads, List.mem_singleton] at ha
    subst ha; exact ho
theorem ads_one {z : V} {s : Sl} : (ads [z] [s]).Nodup := by cases z <;> cases s <;> simp [ads]
theorem a_rcons {r : R} {rs : List R} {ee : Expr} {ees : List Expr} (ha : PE X ee (tR (kc X ck) W T r)) (hr : PA X ees (tRs (kc X ck) W T rs)) (hs : starEach (ee :: ees) X.env = (false, eval ee X.env) :: starEach ees X.env) : PA X (ee :: ees) (tRs (kc X ck) W T (r :: rs)) := by
  refine PA.imp (pa_cons ha hr hs) fun pins s σ H Q I ⟨H0, ρ0, B, O, ρ, η, h, S, p⟩ => ?_
  refine ⟨H0, ρ0, B, O, ρ, η, h, S, ?_⟩
  have p' : PRs (kc X ck) W H0 ρ0 B O ρ η σ H Q ((evR T r η h).bind fun s h1 => (evRs T rs η h1).bind fun ss h2 => .ok (s :: ss) h2) := p
  cases e1 : evR T r η h with
  | bad => rw [e1] at p'; exact p'.elim
  | exc x h' => rw [e1] at p'; exact p'
  | ok s h1 =>
    rw [e1] at p'
    intro z O1 ρ1 H1 S1 m1 r1 f1
    refine ⟨H0, ρ0, B, O1, ρ1, η, h1, S1, ?_⟩
    have p2 : PRs (kc X ck) W H0 ρ0 B O ρ η σ H Q ((evRs T rs η h1).bind fun ss h2 => .ok (s :: ss) h2) := p'
    cases e2 : evRs T rs η h1 with
    | bad => rw [e2] at p2; exact p2.elim
    | exc x h' => rw [e2] at p2; exact fun cls d ρ' H' g mh e => p2 cls d ρ' H' (m1.grow.trans g) (mh.less m1.sub) (e.less m1.sub)
    | ok ss h2 =>
      rw [e2] at p2
      intro zs O2 ρ2 H2 S2 m2 r2 nd f2
      refine p2 (z :: zs) O2 ρ2 H2 S2 (m1.trans m2) (.cons (r1.mv m2 S1) r2) ?_ fun a ha => ?_
      · rw [ads_cons, List.nodup_append]
        refine ⟨ads_one, nd, fun a ha b hb e => ?_⟩
        subst e
        exact f2 a hb (ads_in r1 a ha)
      · rw [ads_cons] at ha
        rcases List.mem_append.mp ha with ha | ha
        · exact f1 a ha
        · exact fun q => f2 a ha (m1.sub a q)
theorem s_asg {i : Nat} {r : R} {x : PySem.Str} {ee : Expr} {pos pos' : Pos} (hN : X.N.Nodup) (hi : X.N[i]? = some x) (hx : L2.Loc X.env.scope x) (he : PE X ee (tR (kc X ck) W T r)) (hs : swapsWith ee (some (.Name x pos')) pos.line X.env = pure false) (hf : X.fn x = true ∨ X.env.scope.names.lookup x = some .local) :
    PS X (.Assign [.Name x pos'] ee pos) (tS (kc X ck) W T (.asg i r)) := by
  refine PS.imp (ps_set hN hi hx he hs hf) fun pins s σ H D I ⟨H0, ρ0, B, O, ρ, η, h, S, p⟩ => ?_
  exact ⟨H0, ρ0, B, O, ρ, η, h, S, PF.bindR S p fun z s O1 ρ1 H1 h1 S1 rl p1 => by
    obtain ⟨η', e, p2⟩ := PF.opt p1
    exact PF.nx p2 (setv_ok S1 rl e)⟩
theorem s_asgLc {i : Nat} {r : R} {it : MP.It} {own : List (PySem.Str × Nat)} {tg : Tg} {cond : Op} {elt : E} {y : PySem.Str} {py : Pos} {eelt etg eit : Expr} {ifs : List Expr} {scope : Scope} {pos spos : Pos} (hr : r = .e (.lc (own.map (·.2)) tg it cond elt) ∨ r = .lc (own.map (·.2)) tg it cond elt)
    (hc : X.calm = true) (hN : X.N.Nodup) (hy : X.N[i]? = some y) (hyl : X.env.scope.names.lookup y = some .local) (hsw : swapsWith (.ListComp eelt [⟨etg, eit, ifs, 0⟩] scope pos) (some (.Name y py)) spos.line X.env = pure true)
    (hi : PI X etg eit (tIt (kc X ck) W T true it)) (ok : BlkOk X.N X.env.scope scope own) (hown : ∀ i ∈ tgIx tg, i ∈ own.map (·.2))
    (hg : InBlk X scope fun X' => PG X' etg (gT X'.K tg)) (ht : InBlk X scope fun X' => PTs X' ifs (tCd (kc X' ck) (fun _ _ _ _ => False) T cond)) (he : InBlk X scope fun X' => PE X' eelt (tE (kc X' ck) (fun _ _ _ _ => False) T false elt)) (hs : ∀ x, foldedSetIterable eit X.env x = pure x) :
    PS X (.Assign [.Name y py] (.ListComp eelt [⟨etg, eit, ifs, 0⟩] scope pos) spos) (tS (kc X ck) W T (.asg i r)) := by
  refine PS.imp (ps_setLc (g := gT X.K tg) (tt := tCd (kc X ck) (fun _ _ _ _ => False) T cond) (te := tE (kc X ck) (fun _ _ _ _ => False) T false elt) hc hN hy hyl hsw hi ok (fun s H C cl fp => hg s H C cl fp) (fun s H C cl fp => ht s H C cl fp) (fun s H C cl fp => he s H C cl fp) hs) fun pins s σ H D I ⟨H0, ρ0, B, O, ρ, η, h, S, p⟩ => ?_
  have fin : ∀ (z : V) (s : Sl) (O1 ρ1 : List Addr) (H1 : Hp) (h1 : MH), St (kc X ck) H0 ρ0 B O1 ρ1 η h1 σ H1 → SlR (kc X ck) H0 B O1 ρ1 η σ H1 z s → PF (kc X ck) W H0 ρ0 B O1 ρ1 H1 D ((opt (setv η i s) h1).bind fun η' h2 => .ok (.nx η') h2) → D.nx (σ.set i (some z)) H1 := fun z s O1 ρ1 H1 h1 S1 rl p1 => by
    obtain ⟨η', e, p2⟩ := PF.opt p1
    exact PF.nx p2 (setv_ok S1 rl e)
  rcases hr with rfl | rfl
  · have p' : PF (kc X ck) W H0 ρ0 B O ρ H D ((evE T false (.lc (own.map (·.2)) tg it cond elt) η h).bind fun v h1 => ((opt (setv η i (.v v)) h1).bind fun η' h2 => .ok (.nx η') h2)) := by
      have e : evS T ck (.asg i (.e (.lc (own.map (·.2)) tg it cond elt))) η h = _ := rfl
      have p0 : PF (kc X ck) W H0 ρ0 B O ρ H D ((((evE T false (.lc (own.map (·.2)) tg it cond elt) η h).bind fun v h1 => Res.ok (Sl.v v) h1)).bind fun s h1 => (opt (setv η i s) h1).bind fun η' h2 => .ok (.nx η') h2) := p
      rw [bind_assoc] at p0
      exact p0
    refine lc_reads (b := false) hown ⟨H0, ρ0, B, O, ρ, η, h, S, PF.bind S p' fun z v ρ1 H1 h1 g S1 r p1 => ?_⟩
    exact fin z (.v v) O ρ1 H1 h1 S1 r.ff p1
  · exact lc_readsR hown ⟨H0, ρ0, B, O, ρ, η, h, S, PF.bindR S p fin⟩
theorem setvs_len : ∀ {is : List Nat} {ss : List Sl} {η η' : Env}, setvs η is ss = some η' → is.length = ss.length
  | [], [], _, _, _ => rfl
  | [], _ :: _, _, _, e => by simp [setvs] at e
  | _ :: _, [], _, _, e => by simp [setvs] at e
  | i :: is, s :: ss, η, η', e => by
    simp only [setvs] at e
    obtain ⟨_, _, e2⟩ := Option.bind_eq_some_iff.mp e
    rw [List.length_cons, List.length_cons, setvs_len e2]
theorem SlRs.length {K : KC} {H0 H : Hp} {B O ρ : List Addr} {η : Env} {σ : L2.St} : ∀ {zs : List V} {ss : List Sl}, SlRs K H0 B O ρ η σ H zs ss → zs.length = ss.length
  | _, _, .nil => rfl
  | _, _, .cons _ rs => by rw [List.length_cons, List.length_cons, SlRs.length rs]
theorem s_par {is : List Nat} {rs : List R} {tgs ees : List Expr} {k k' : Nat} {pt pe pos : Pos} (hc : X.calm = true) (ha : PA X ees (tRs (kc X ck) W T rs)) (hg : PGs X tgs (gNs is)) (hl : (assignEach tgs X.env).length = is.length) (hf : (assignEach tgs X.env).findIdx? (·.1) = none) (hlen : is.length ≤ 1000)
    (hw : swappedStores [.Tuple tgs k pt] (.Tuple ees k' pe) X.env = pure none) : PS X (.Assign [.Tuple tgs k pt] (.Tuple ees k' pe) pos) (tS (kc X ck) W T (.par is rs)) := by
  refine PS.imp (ps_asg (pe_tup ha) (pg_tup hc hg hl hf) (by rfl) hw (by rfl)) fun pins s σ H D I ⟨H0, ρ0, B, O, ρ, η, h, S, p⟩ => ?_
  refine ⟨H0, ρ0, B, O, ρ, η, h, S, PF.bindRs S p fun zs ss O1 ρ1 H1 h1 S1 rl nd p1 => ?_⟩
  obtain ⟨η', e, p2⟩ := PF.opt p1
  have el := setvs_len e
  have ez := rl.length
  refine ⟨by rw [ez, ← el, sizeLine_eq]; omega, fun a hA => ?_⟩
  have sm : Same H1 (upd H1 a (.tup zs)) := Same.new hA
  have gs : Grow ρ1 H1 ρ1 (upd H1 a (.tup zs)) := Grow.same sm
  have S2 := S1.grow gs (S1.mh.same sm)
  refine ⟨a, zs, rfl, SqT.of upd_same, by rw [ez, el], ?_⟩
  exact setvs_ok S2 (rl.mv gs.mv S1) nd e fun σ' S' => PF.nx (PF.shift gs.go p2) S'
theorem s_par2 {i j : Nat} {rs : List R} {x y : PySem.Str} {a b : Expr} {k k' : Nat} {px py pt pe pos : Pos} (hc : X.calm = true) (hN : X.N.Nodup) (hi : X.N[i]? = some x) (hj : X.N[j]? = some y) (hij : i ≠ j) (hx : X.env.scope.names.lookup x = some .local) (hy : X.env.scope.names.lookup y = some .local) (ha : PA X [a, b] (tRs (kc X ck) W T rs))
    (hw : swappedStores [.Tuple [.Name x px, .Name y py] k pt] (.Tuple [a, b] k' pe) X.env = pure (some [x, y])) : PS X (.Assign [.Tuple [.Name x px, .Name y py] k pt] (.Tuple [a, b] k' pe) pos) (tS (kc X ck) W T (.par [i, j] rs)) := by
  refine PS.imp (ps_par hc hN hi hj hij hx hy ha hw) fun pins s σ H D I ⟨H0, ρ0, B, O, ρ, η, h, S, p⟩ => ?_
  refine ⟨H0, ρ0, B, O, ρ, η, h, S, PF.bindRs S p fun zs ss O1 ρ1 H1 h1 S1 rl nd p1 => ?_⟩
  obtain ⟨η', e, p2⟩ := PF.opt p1
  obtain ⟨v, r, rfl, w, r2, rfl, rfl, q⟩ := setvs_ok S1 rl nd e fun σ' S' => PF.nx p2 S'
  exact ⟨v, w, rfl, q⟩
theorem s_par3 {i j l : Nat} {rs : List R} {x y z : PySem.Str} {a b c : Expr} {k k' : Nat} {px py pz pt pe pos : Pos} (hc : X.calm = true) (hN : X.N.Nodup) (hi : X.N[i]? = some x) (hj : X.N[j]? = some y) (hl : X.N[l]? = some z) (hij : i ≠ j) (hil : i ≠ l) (hjl : j ≠ l) (hx : X.env.scope.names.lookup x = some .local) (hy : X.env.scope.names.lookup y = some .local) (hz : X.env.scope.names.lookup z = some .local) (ha : PA X [a, b, c] (tRs (kc X ck) W T rs))
    (hw : swappedStores [.Tuple [.Name x px, .Name y py, .Name z pz] k pt] (.Tuple [a, b, c] k' pe) X.env = pure (some [x, y, z])) : PS X (.Assign [.Tuple [.Name x px, .Name y py, .Name z pz] k pt] (.Tuple [a, b, c] k' pe) pos) (tS (kc X ck) W T (.par [i, j, l] rs)) := by
  refine PS.imp (ps_par3 hc hN hi hj hl hij hil hjl hx hy hz ha hw) fun pins s σ H D I ⟨H0, ρ0, B, O, ρ, η, h, S, p⟩ => ?_
  refine ⟨H0, ρ0, B, O, ρ, η, h, S, PF.bindRs S p fun zs ss O1 ρ1 H1 h1 S1 rl nd p1 => ?_⟩
  obtain ⟨η', e, p2⟩ := PF.opt p1
  obtain ⟨v, r, rfl, w, r2, rfl, u, r3, rfl, rfl, q⟩ := setvs_ok S1 rl nd e fun σ' S' => PF.nx p2 S'
  exact ⟨v, w, u, rfl, q⟩
theorem pg_unp {es : List Expr} {k : Nat} {t : TGs} {n : Nat} {pos : Pos} (hc : X.calm = true) (h : PGs X es t) (hn : (assignEach es X.env).length = n) (hst : (assignEach es X.env).findIdx? (·.1) = none) : PG X (.Tuple es k pos) (fun v σ H Q => gTup X.K n t v σ H Q ∨ gUnl X.K n t v σ H Q) :=
  ⟨fun pins s σ H v u Q I r hq => hq.elim (fun q => (pg_tup hc h hn hst).run pins s σ H v u Q I r q) fun q => (pg_unl hc h hn hst).run pins s σ H v u Q I r q⟩
theorem s_unp {is : List Nat} {e : E} {tgs : List Expr} {ee : Expr} {k : Nat} {pt pos : Pos} (hc : X.calm = true) (he : PE X ee (tE (kc X ck) W T false e)) (hg : PGs X tgs (gNs is)) (hl : (assignEach tgs X.env).length = is.length) (hf : (assignEach tgs X.env).findIdx? (·.1) = none)
    (hs : swapsWith ee (some (.Tuple tgs k pt)) pos.line X.env = pure false) (hw : swappedStores [.Tuple tgs k pt] ee X.env = pure none) : PS X (.Assign [.Tuple tgs k pt] ee pos) (tS (kc X ck) W T (.unp is e)) := by
  refine PS.imp (ps_asg he (pg_unp hc hg hl hf) hs hw (by rfl)) fun pins s σ H D I ⟨H0, ρ0, B, O, ρ, η, h, S, p⟩ => ?_
  refine ⟨H0, ρ0, B, O, ρ, η, h, S, PF.bind S p fun z v ρ1 H1 h1 g S1 r p1 => ?_⟩
  cases v with
  | tup l =>
    obtain ⟨η', e, p2⟩ := PF.opt p1
    obtain ⟨a, Vs, rfl, t1, t2, _⟩ := r.tup_
    exact .inl ⟨a, Vs, rfl, t1, by rw [t2.length, gNs_len e], setAll_ok S1 t2 e fun σ' S' _ => PF.nx p2 S'⟩
  | lst l =>
    obtain ⟨η', e, p2⟩ := PF.opt p1
    obtain ⟨a, Vs, rfl, t1, t2⟩ := r.lst_
    exact .inr ⟨a, Vs, rfl, t1, by rw [t2.length, gNs_len e], setAll_ok S1 t2 e fun σ' S' _ => PF.nx p2 S'⟩
  | _ => exact p1.elim
theorem s_setI (hu : X.A.units + 65 < cLine) {b i e : E} {eb ei ee : Expr} {pos pos' : Pos} (he : PE X ee (tE (kc X ck) W T false e)) (hb : PE X eb (tE (kc X ck) W T true b)) (hi : PE X ei (tE (kc X ck) W T true i))
    (ha : ∀ v, assign (.Subscript eb ei pos') X.env v = (do
      let ov ← holding [v] (eval eb X.env)
      let iv ← holding [v, ov] (eval ei X.env)
      standAt pos'
      holding [v, ov, iv] (setItem ov iv v)
      release [v, ov, iv] [])) (hs : swapsWith ee (some (.Subscript eb ei pos')) pos.line X.env = pure false) (hw : swappedStores [.Subscript eb ei pos'] ee X.env = pure none) : PS X (.Assign [.Subscript eb ei pos'] ee pos) (tS (kc X ck) W T (.setI b i e)) := by
  refine PS.imp (ps_asg he (pg_sub hb hi (p_put (by omega)) ha) hs hw (by rfl)) fun pins s σ H D I ⟨H0, ρ0, B, O, ρ, η, h, S, p⟩ => ?_
  refine ⟨H0, ρ0, B, O, ρ, η, h, S, PF.bind S p fun z v ρ1 H1 h1 g S1 r p1 => ?_⟩
  refine ⟨H0, ρ0, B, O, ρ1, η, h1, S1, PF.bind S1 p1 fun y d ρ2 H2 h2 g2 S2 r2 p2 => ?_⟩
  refine ⟨H0, ρ0, B, O, ρ2, η, h2, S2, PF.bind S2 p2 fun w k ρ3 H3 h3 g3 S3 r3 p3 => ?_⟩
  cases d with
  | obj n =>
    obtain ⟨o', e3, p4⟩ := PF.opt p3
    obtain ⟨o, e4, e5⟩ := Option.bind_eq_some_iff.mp e3
    obtain ⟨a, rfl, ea⟩ := (r2.grow g3).obj_
    have w3 := S3.mh.at_ n o a e4 ea
    have rv := (r.grow g2).grow g3
    obtain ⟨ob, pq, w4⟩ := put_ok w3 (List.mem_append_right _ (List.mem_of_getElem? ea)) r3 rv.ff e5
    refine pq _ ?_
    refine p4 O ρ3 σ _ (S3.writeObj (List.getElem?_eq_some_iff.mp e4).1 ea w4) ⟨ext_poke (List.mem_append_right _ (List.mem_of_getElem? ea)), List.prefix_rfl⟩
  | _ => exact p3.elim
theorem s_setO (hu : X.A.units + 65 < cLine) {j : Nat} {i e : E} {x : PySem.Str} {ei ee : Expr} {pos pos' px : Pos} (he : PE X ee (tE (kc X ck) W T false e)) (hj : X.N[j]? = some x) (hv : Vis X.env.scope x) (hd : (x == ("__debug__" : PySem.Str)) = false) (hcd : (x == ("__classdict__" : PySem.Str)) = false) (hi : PE X ei (tE (kc X ck) W T true i))
    (ha : ∀ v, assign (.Subscript (.Name x px) ei pos') X.env v = (do
      let ov ← holding [v] (eval (.Name x px) X.env)
      let iv ← holding [v, ov] (eval ei X.env)
      standAt pos'
      holding [v, ov, iv] (setItem ov iv v)
      release [v, ov, iv] [])) (hs : swapsWith ee (some (.Subscript (.Name x px) ei pos')) pos.line X.env = pure false) (hw : swappedStores [.Subscript (.Name x px) ei pos'] ee X.env = pure none) : PS X (.Assign [.Subscript (.Name x px) ei pos'] ee pos) (tS (kc X ck) W T (.setO j i e)) := by
  refine PS.imp (ps_asg he (pg_sub (pe_var hj hv hd hcd) hi (p_put (by omega)) ha) hs hw (by rfl)) fun pins s σ H D I ⟨H0, ρ0, B, O, ρ, η, h, S, p⟩ => ?_
  refine ⟨H0, ρ0, B, O, ρ, η, h, S, PF.bind S p fun z v ρ1 H1 h1 g S1 r p1 => ?_⟩
  obtain ⟨d, ed, p2⟩ := PF.opt p1
  have ed' : η[j]? = some (.o d) := by
    unfold ownS at ed
    split at ed
    · injection ed with ed; subst ed; assumption
    · cases ed
  obtain ⟨a, ea, ho, _⟩ := S1.own j d ed'
  refine ⟨.ref a, ea, H0, ρ0, B, O, ρ1, η, h1, S1, PF.bind S1 p2 fun w k ρ3 H3 h3 g3 S3 r3 p3 => ?_⟩
  obtain ⟨d', e5, p4⟩ := PF.opt p3
  obtain ⟨a', ea', _, _, _, w3⟩ := S3.own j d ed'
  rw [ea] at ea'; cases ea'
  obtain ⟨ob, pq, w4⟩ := put_ok w3 (List.mem_append_left _ ho) r3 (r.grow g3).ff e5
  refine pq _ ?_
  exact p4 O ρ3 σ _ (S3.write ed' ea w4) ⟨ext_poke (List.mem_append_left _ ho), List.prefix_rfl⟩
theorem ownL_eq {η : Env} {j : Nat} {l : List Val} (e : ownL η j = some l) : η[j]? = some (.o (.lst l)) := by
  unfold ownL at e
  split at e
  · injection e with e; subst e; assumption
  · cases e
theorem s_app {j : Nat} {e : E} {x : PySem.Str} {ee : Expr} {px apos cpos pos : Pos} (hj : X.N[j]? = some x) (hv : Vis X.env.scope x) (hd : (x == ("__debug__" : PySem.Str)) = false) (hcd : (x == ("__classdict__" : PySem.Str)) = false) (he : PE X ee (tE (kc X ck) W T false e)) (hs : starEach [ee] X.env = [(false, eval ee X.env)]) (hline : (apos.endLine == cpos.line) = true) :
    PS X (.Expr (.Call (.Attribute (.Name x px) "append" apos) [ee] [] cpos) pos) (tS (kc X ck) W T (.app j e)) := by
  refine PS.imp (ps_expr (pe_bm PySem.F.plainAttrs_list PySem.F.slot_list_append PySem.F.type_list_append mt_append (pe_var hj hv hd hcd) (pa_cons he pa_nil hs) (by rfl) (by rw [hs]; rfl) hline hs rfl) (by rfl)) fun pins s σ H D I ⟨H0, ρ0, B, O, ρ, η, h, S, p⟩ => ?_
  obtain ⟨l, el, p1⟩ := PF.opt p
  have el' := ownL_eq el
  obtain ⟨a, ea, ho, _, _, Vs, w1, w2⟩ := S.own j _ el'
  refine ⟨.ref a, ea, .inl ⟨rfl, Vs, SqL.of w1⟩, H0, ρ0, B, O, ρ, η, h, S, PF.bind S p1 fun z v ρ1 H1 h1 g S1 r p2 => ?_⟩
  split at p2
  · rename_i hz
    have e1 : H1 a = some (.lst Vs) := g.keep a _ w1 (S.sep a ho)
    refine ⟨a, Vs, z, rfl, rfl, e1, by rw [w2.length, ← sz_line]; exact hz, ?_⟩
    refine p2 O ρ1 σ _ (S1.write el' ea ⟨Vs ++ [z], upd_same, ((w2.ext g.ext g.pre).append (.cons r.ff .nil)).ext (ext_poke (List.mem_append_left _ ho)) List.prefix_rfl⟩) ⟨ext_poke (List.mem_append_left _ ho), List.prefix_rfl⟩
  · exact p2.elim
theorem s_ext {j : Nat} {r : R} {x : PySem.Str} {ee : Expr} {px apos cpos pos : Pos} (hj : X.N[j]? = some x) (hv : Vis X.env.scope x) (hd : (x == ("__debug__" : PySem.Str)) = false) (hcd : (x == ("__classdict__" : PySem.Str)) = false) (he : PE X ee (tR (kc X ck) W T r)) (hs : starEach [ee] X.env = [(false, eval ee X.env)]) (hline : (apos.endLine == cpos.line) = true) :
    PS X (.Expr (.Call (.Attribute (.Name x px) "extend" apos) [ee] [] cpos) pos) (tS (kc X ck) W T (.ext j r)) := by
  refine PS.imp (ps_expr (pe_bm PySem.F.plainAttrs_list PySem.F.slot_list_extend PySem.F.type_list_extend mt_extend (pe_var hj hv hd hcd) (pa_cons he pa_nil hs) (by rfl) (by rw [hs]; rfl) hline hs rfl) (by rfl)) fun pins s σ H D I ⟨H0, ρ0, B, O, ρ, η, h, S, p⟩ => ?_
  obtain ⟨l, el, p1⟩ := PF.opt p
  have el' := ownL_eq el
  obtain ⟨a, ea, ho, _, _, Vs, w1, w2⟩ := S.own j _ el'
  refine ⟨.ref a, ea, .inl ⟨rfl, Vs, SqL.of w1⟩, H0, ρ0, B, O, ρ, η, h, S, PF.bindR S p1 fun z v O1 ρ1 H1 h1 S1 r p2 => ?_⟩
  split at p2
  · rename_i m
    split at p2
    · rename_i hz
      obtain ⟨c, rfl, hc, _, _, un, Ws, u1, u2⟩ := r
      obtain ⟨a', ea', ho', _, _, Vs', w1', w2'⟩ := S1.own j _ el'
      rw [ea] at ea'; cases ea'
      refine ⟨a, c, Vs', Ws, rfl, rfl, w1', u1, by rw [w2'.length, u2.length, ← sz_line]; exact hz, ?_⟩
      exact p2 O1 ρ1 σ _ (S1.write el' ea ⟨Vs' ++ Ws, upd_same, (w2'.append u2).ext (ext_poke (List.mem_append_left _ ho')) List.prefix_rfl⟩) ⟨ext_poke (List.mem_append_left _ ho'), List.prefix_rfl⟩
    · exact p2.elim
  · exact p2.elim
theorem s_expr {e : E} {ee : Expr} {pos : Pos} (he : PE X ee (tE (kc X ck) W T true e)) (hs : swapsWith ee none pos.line X.env = pure false) : PS X (.Expr ee pos) (tS (kc X ck) W T (.expr e)) := by
  refine PS.imp (ps_expr he hs) fun pins s σ H D I ⟨H0, ρ0, B, O, ρ, η, h, S, p⟩ => ?_
  exact ⟨H0, ρ0, B, O, ρ, η, h, S, PF.bind S p fun z v ρ1 H1 h1 g S1 r p1 => PF.nx p1 S1⟩
theorem s_ret {e : E} {ee : Expr} {pos : Pos} (he : PE X ee (tE (kc X ck) W T false e)) : PS X (.Return (some ee) pos) (tS (kc X ck) W T (.ret e)) := by
  refine PS.imp (ps_ret he) fun pins s σ H D I ⟨H0, ρ0, B, O, ρ, η, h, S, p⟩ => ?_
  exact ⟨H0, ρ0, B, O, ρ, η, h, S, PF.bind S p fun z v ρ1 H1 h1 g S1 r p1 => p1 z ρ1 H1 S1.grown (S1.mh.less S1.bar) (r.ff.less S1.bar)⟩
theorem s_retN {pos : Pos} : PS X (.Return none pos) (tS (kc X ck) W T (.ret (.con .non))) :=
  PS.imp ps_retN fun pins s σ H D I ⟨H0, ρ0, B, O, ρ, η, h, S, p⟩ => p .non ρ H S.grown (S.mh.less S.bar) .non
theorem s_skip {pos : Pos} : PS X (.Pass pos) (tS (kc X ck) W T .skip) :=
  PS.imp ps_pass fun pins s σ H D I ⟨H0, ρ0, B, O, ρ, η, h, S, p⟩ => PF.nx p S
theorem s_brk {pos : Pos} : PS X (.Break pos) (tS (kc X ck) W T .brk) :=
  PS.imp ps_break fun pins s σ H D I ⟨H0, ρ0, B, O, ρ, η, h, S, p⟩ => p O ρ σ H S Go.refl
theorem s_cont {pos : Pos} : PS X (.Continue pos) (tS (kc X ck) W T .cont) :=
  PS.imp ps_continue fun pins s σ H D I ⟨H0, ρ0, B, O, ρ, η, h, S, p⟩ => p O ρ σ H S Go.refl
theorem s_never {st : Stmt} : PS X st (tS (kc X ck) W T .never) := PS.imp ps_never fun pins s σ H D I ⟨H0, ρ0, B, O, ρ, η, h, S, p⟩ => p
theorem s_frz {st : Stmt} {is : List Nat} {a : S} (hs : PS X st (tS (kc X ck) W T a)) : PS X st (tS (kc X ck) W T (.frz is a)) :=
  PS.imp hs fun pins s σ H D I ⟨H0, ρ0, B, O, ρ, η, h, S, p⟩ => by
    obtain ⟨O', S', g⟩ := S.frzs is
    exact ⟨H0, ρ0, B, O', ρ, frz η is, h, S', PF.shift g p⟩
theorem s_kill {st : Stmt} {is : List Nat} {a : S} (hs : PS X st (tS (kc X ck) W T a)) : PS X st (tS (kc X ck) W T (.kill is a)) :=
  PS.imp hs fun pins s σ H D I ⟨H0, ρ0, B, O, ρ, η, h, S, p⟩ => by
    refine ⟨H0, ρ0, B, O, ρ, η, h, S, ?_⟩
    have p' : PF (kc X ck) W H0 ρ0 B O ρ H D ((evS T ck a η h).bind fun r h1 => match r with | .nx η' => .ok (.nx (wipe η' is)) h1 | r => .ok r h1) := p
    show PF _ _ _ _ _ _ _ _ _ (evS T ck a η h)
    cases e : evS T ck a η h with
    | bad => rw [e] at p'; exact p'
    | exc => rw [e] at p'; exact p'
    | ok r h1 =>
      rw [e] at p'
      cases r with
      | nx η' => exact fun O' ρ' σ' H' S' g => p' O' ρ' σ' H' (S'.kills is) g
      | bk η' => exact p'
      | ct η' => exact p'
      | rt v => exact p'
theorem ss_nil : PSs X [] (tS (kc X ck) W T .skip) := PSs.imp pss_nil fun pins s σ H D I ⟨H0, ρ0, B, O, ρ, η, h, S, p⟩ => PF.nx p S
theorem ss_cons {st : Stmt} {rest : List Stmt} {a b : S} (h1 : PS X st (tS (kc X ck) W T a)) (h2 : PSs X rest (tS (kc X ck) W T b)) : PSs X (st :: rest) (tS (kc X ck) W T (.seq a b)) :=
  PSs.imp (pss_cons h1 h2) fun pins s σ H D I ⟨H0, ρ0, B, O, ρ, η, h, S, p⟩ => by
    refine ⟨H0, ρ0, B, O, ρ, η, h, S, ?_⟩
    have p' : PF (kc X ck) W H0 ρ0 B O ρ H D ((evS T ck a η h).bind fun r h1 => match r with | .nx η' => evS T ck b η' h1 | r => .ok r h1) := p
    show PF _ _ _ _ _ _ _ _ _ (evS T ck a η h)
    cases e : evS T ck a η h with
    | bad => rw [e] at p'; exact p'
    | exc => rw [e] at p'; exact p'
    | ok r h1 =>
      rw [e] at p'
      cases r with
      | nx η' => exact fun O' ρ' σ' H' S' g => ⟨H0, ρ0, B, O', ρ', η', h1, S', PF.shift g p'⟩
      | bk η' => exact p'
      | ct η' => exact p'
      | rt v => exact p'
theorem s_ife {c : E} {a b : S} {ec : Expr} {ba bb : List Stmt} {pos : Pos} (hc : PT X ec (tT (kc X ck) W T true c)) (ha : PSs X ba (tS (kc X ck) W T a)) (hb : PSs X bb (tS (kc X ck) W T b)) : PS X (.If ec ba bb pos) (tS (kc X ck) W T (.ife c a b)) :=
  PS.imp (ps_if hc ha hb) fun pins s σ H D I ⟨H0, ρ0, B, O, ρ, η, h, S, p⟩ => by
    have p' : PF (kc X ck) W H0 ρ0 B O ρ H D ((evT T true c η h).bind fun t h2 => if t then evS T ck a η h2 else evS T ck b η h2) := by
      unfold evT
      rw [bind_assoc]
      exact p
    refine ⟨H0, ρ0, B, O, ρ, η, h, S, PF.bind S p' fun z k ρ1 H1 h1 g S1 r p1 => ?_⟩
    subst r
    cases z with
    | true => exact ⟨H0, ρ0, B, O, ρ1, η, h1, S1, p1⟩
    | false => exact ⟨H0, ρ0, B, O, ρ1, η, h1, S1, p1⟩
theorem s_whl {c : E} {a : S} {ec : Expr} {ba : List Stmt} {pos : Pos} (hp : PassesOwn (model X.prog X.w) X.A X.env X.xe) (hc : PT X ec (tT (kc X ck) W T true c)) (ha : PSs X ba (tS (kc X ck) W T a)) : PS X (.While ec ba [] pos) (tS (kc X ck) W T (.whl c a)) := by
  refine PS.imp (ps_while hp hc ha) fun pins s σ H D I ⟨H0, ρ0, B, O, ρ, η, h, S, p⟩ => ?_
  have p' : PF (kc X ck) W H0 ρ0 B O ρ H D (whileM (evT T true c) (evS T ck a) η h) := p
  unfold whileM at p'
  split at p'
  · rename_i ex
    refine ⟨fun m σ' H' => ∃ O' ρ' η' h', St (kc X ck) H0 ρ0 B O' ρ' η' h' σ' H' ∧ PF (kc X ck) W H0 ρ0 B O' ρ' H' D (loopW (evT T true c) (evS T ck a) m η' h'), ⟨_, O, ρ, η, h, S, p'⟩, ?_⟩
    rintro m σ' H' ⟨O', ρ', η', h', S', q⟩
    cases m with
    | zero => exact q.elim
    | succ m =>
      have q' : PF (kc X ck) W H0 ρ0 B O' ρ' H' D ((evT T true c η' h').bind fun t h1 => if t then (evS T ck a η' h1).bind fun r h2 => match r with
        | .nx η' => loopW (evT T true c) (evS T ck a) m η' h2
        | .ct η' => loopW (evT T true c) (evS T ck a) m η' h2
        | .bk η' => .ok (.nx η') h2
        | .rt v => .ok (.rt v) h2
        else .ok (.nx η') h1) := q
      refine ⟨H0, ρ0, B, O', ρ', η', h', S', PF.bind S' q' fun z k ρ1 H1 h1 g S1 r p1 => ?_⟩
      subst r
      cases z with
      | false => exact PF.nx p1 S1
      | true =>
        rw [if_pos rfl] at p1 ⊢
        refine ⟨fun σ' H' => ∃ O' ρ' η' h', St (kc X ck) H0 ρ0 B O' ρ' η' h' σ' H' ∧ PF (kc X ck) W H0 ρ0 B O' ρ' H' D (loopW (evT T true c) (evS T ck a) m η' h'), fun σ' H' w => ⟨m, Nat.lt_succ_self m, w⟩, H0, ρ0, B, O', ρ1, η', h1, S1, ?_⟩
        show PF _ _ _ _ _ _ _ _ _ (evS T ck a η' h1)
        cases e : evS T ck a η' h1 with
        | bad => rw [e] at p1; exact p1
        | exc => rw [e] at p1; exact p1
        | ok r h2 =>
          rw [e] at p1
          cases r with
          | nx η2 => exact fun O2 ρ2 σ2 H2 S2 g2 => ⟨O2, ρ2, η2, h2, S2, PF.shift g2 p1⟩
          | ct η2 => exact fun O2 ρ2 σ2 H2 S2 g2 => ⟨O2, ρ2, η2, h2, S2, PF.shift g2 p1⟩
          | bk η2 => exact p1
          | rt v => exact p1
  · exact p'.elim
theorem s_for {tg : Tg} {it : MP.It} {a : S} {etg eit : Expr} {ba : List Stmt} {pos : Pos} (hp : PassesOwn (model X.prog X.w) X.A X.env X.xe) (hc : X.calm = true) (hi : PI X etg eit (tIt (kc X ck) W T false it)) (hg : PG X etg (gT X.K tg)) (ha : PSs X ba (tS (kc X ck) W T a)) (hs : ∀ x, foldedSetIterable eit X.env x = pure x) :
    PS X (.For etg eit ba [] pos) (tS (kc X ck) W T (.for_ tg it a)) := by
  refine PS.imp (ps_for hp hc hi hg ha hs) fun pins s σ H D I ⟨H0, ρ0, B, O, ρ, η, h, S, p⟩ => ?_
  refine ⟨H0, ρ0, B, O, ρ, η, h, S, PF.bind S p fun J xs ρ1 H1 h1 g S1 ⟨wk, hz⟩ p1 => ?_⟩
  have p1' : PF (kc X ck) W H0 ρ0 B O ρ1 H1 D (loopF (fun x η h => (opt (bindT η tg x) h).bind fun η' h => evS T ck a η' h) xs η h1) := p1
  refine ⟨fun i m σ' H' => m = xs.length - i ∧ i ≤ xs.length ∧ ∃ O' ρ' η' h', St (kc X ck) H0 ρ0 B O' ρ' η' h' σ' H' ∧ Go O ρ1 H1 O' ρ' H' ∧ PF (kc X ck) W H0 ρ0 B O' ρ' H' D (loopF (fun x η h => (opt (bindT η tg x) h).bind fun η' h => evS T ck a η' h) (xs.drop i) η' h'),
    ⟨xs.length, by simp, Nat.zero_le _, O, ρ1, η, h1, S1, Go.refl, by rw [List.drop_zero]; exact p1'⟩, ?_⟩
  rintro i m σ' H' ⟨rfl, hi', O', ρ', η', h', S', g', q⟩
  have st := wk H' (O' ++ ρ') ρ' ⟨g'.ext, g'.pre, fun q => (by cases q), S'.alive⟩ i
  by_cases hlt : i < xs.length
  · have hx : xs[i]? = some xs[i] := by simp [hlt]
    obtain ⟨go, stp⟩ := st.2 _ hx
    rw [List.drop_eq_getElem_cons hlt] at q
    refine .inr ⟨go, fun σ2 H2 => ∃ O' ρ' η' h', St (kc X ck) H0 ρ0 B O' ρ' η' h' σ2 H2 ∧ Go O ρ1 H1 O' ρ' H2 ∧ PF (kc X ck) W H0 ρ0 B O' ρ' H2 D (loopF (fun x η h => (opt (bindT η tg x) h).bind fun η' h => evS T ck a η' h) (xs.drop (i + 1)) η' h'),
      fun σ2 H2 w => ⟨xs.length - (i + 1), by omega, rfl, hlt, w⟩, fun z H2 y => ?_⟩
    obtain ⟨sm, rz⟩ := stp z H2 y
    have gz : Grow ρ' H' ρ' H2 := Grow.same sm
    have S2 := S'.grow gz (S'.mh.same sm)
    have q' : PF (kc X ck) W H0 ρ0 B O' ρ' H' D (((opt (bindT η' tg xs[i]) h').bind fun η' h => evS T ck a η' h).bind fun r h1 => match r with
      | .nx η' => loopF (fun x η h => (opt (bindT η tg x) h).bind fun η' h => evS T ck a η' h) (xs.drop (i + 1)) η' h1
      | .ct η' => loopF (fun x η h => (opt (bindT η tg x) h).bind fun η' h => evS T ck a η' h) (xs.drop (i + 1)) η' h1
      | .bk η' => .ok (.nx η') h1
      | .rt v => .ok (.rt v) h1) := q
    rw [bind_assoc] at q'
    obtain ⟨η2, eb, q2⟩ := PF.opt q'
    refine gT_ok rfl S2 rz eb fun σ2 S3 _ => ?_
    refine ⟨H0, ρ0, B, O', ρ', η2, h', S3, ?_⟩
    have q3 := PF.shift gz.go q2
    show PF _ _ _ _ _ _ _ _ _ (evS T ck a η2 h')
    cases e : evS T ck a η2 h' with
    | bad => rw [e] at q3; exact q3
    | exc => rw [e] at q3; exact q3
    | ok r h2 =>
      rw [e] at q3
      have g2 : Go O ρ1 H1 O' ρ' H2 := g'.trans gz.go
      cases r with
      | nx η3 => exact fun O3 ρ3 σ3 H3 S4 g4 => ⟨O3, ρ3, η3, h2, S4, g2.trans g4, PF.shift g4 q3⟩
      | ct η3 => exact fun O3 ρ3 σ3 H3 S4 g4 => ⟨O3, ρ3, η3, h2, S4, g2.trans g4, PF.shift g4 q3⟩
      | bk η3 => exact q3
      | rt v => exact q3
  · have e : i = xs.length := by omega
    subst e
    rw [List.drop_length] at q
    exact .inl ⟨st.1 (Nat.le_refl _), PF.nx q S'⟩
end
end MP
set_option maxHeartbeats 4000000
set_option autoImplicit false
namespace MP
open PySem PySem.Spec PyProof.Rows L2
def funB (sc : Scope) : Bool := match sc.kind with
  | .function => true
  | _ => false
theorem fun_ok {sc : Scope} (h : funB sc = true) : sc.kind = .function := by
  unfold funB at h
  split at h <;> simp_all
def noSD : Expr → Bool
  | .SetComp .. => false
  | .DictComp .. => false
  | _ => true
def noComp : Expr → Bool
  | .SetComp .. => false
  | .DictComp .. => false
  | .ListComp .. => false
  | _ => true
def swB (sc : Scope) (value : Expr) (x : PySem.Str) (xl : Nat) : Bool := match value with
  | .ListComp _ _ s p => sc.names.lookup x == some .local && xl == p.line && !(s.names.any fun (n, k) => n == x && (k == .local || k == .cell))
  | _ => false
theorem block_fun {env : PySem.Env} (hk : env.scope.kind = .function) : env.blockKind = .function := by
  unfold Env.blockKind; rw [hk]; rfl
theorem sw_dec {env : PySem.Env} {value : Expr} {x : PySem.Str} {p : Pos} {l : Nat} (hk : env.scope.kind = .function) (hn : noSD value = true) : swapsWith value (some (.Name x p)) l env = pure (swB env.scope value x p.line) := by
  have hb := block_fun hk
  cases value <;> first | rfl | (simp [noSD] at hn; done) | skip
  unfold swapsWith swB
  simp only [hb, Env.kindOf, Expr.pos]
  rfl
theorem sw_no {env : PySem.Env} {value : Expr} {l : Nat} (hn : noComp value = true) : swapsWith value none l env = pure false := by
  cases value <;> first | rfl | (simp [noComp] at hn; done)
theorem sw_tup {env : PySem.Env} {value : Expr} {es : List Expr} {k : Nat} {p : Pos} {l : Nat} : swapsWith value (some (.Tuple es k p)) l env = pure false := by
  cases value <;> rfl
theorem sw_sub {env : PySem.Env} {value o i : Expr} {p : Pos} {l : Nat} : swapsWith value (some (.Subscript o i p)) l env = pure false := by
  cases value <;> rfl
theorem stores_sub {env : PySem.Env} {value o i : Expr} {p : Pos} : swappedStores [.Subscript o i p] value env = pure none := by
  cases value <;> rfl
def isTup : Expr → Bool
  | .Tuple .. => true
  | _ => false
theorem stores_no {env : PySem.Env} {value : Expr} {es : List Expr} {k : Nat} {p : Pos} (h : isTup value = false) : swappedStores [.Tuple es k p] value env = pure none := by
  cases value <;> first | rfl | (simp [isTup] at h; done)
def anyStar (vs : List Expr) : Bool := vs.any fun | .Starred .. => true | _ => false
def swNames (sc : Scope) (ts : List Expr) : List PySem.Str :=
  let line := (ts.head?.map (·.pos.line)).getD 0
  ts.filterMap fun
    | .Name id pos => if sc.names.lookup id == some .local && pos.line == line then some id else none
    | _ => none
def swN (sc : Scope) (ts vs : List Expr) : Option (Option (List PySem.Str)) :=
  if !(ts.length == 2 || ts.length == 3) || vs.length != ts.length then some none
  else if anyStar vs then some none
  else if (swNames sc ts).length != ts.length || (swNames sc ts).eraseDups.length != (swNames sc ts).length then some none
  else if vs.all (foldedForSure 8) then some none
  else if vs.all (constantsAlone 8) then none
  else some (some (swNames sc ts))
theorem sw_stores {env : PySem.Env} {ts vs : List Expr} {k k' : Nat} {p p' : Pos} {r : Option (List PySem.Str)} (hk : env.scope.kind = .function) (h : swN env.scope ts vs = some r) : swappedStores [.Tuple ts k p] (.Tuple vs k' p') env = pure r := by
  have hb := block_fun hk
  unfold swN at h
  unfold swappedStores
  simp only [hb]
  by_cases c1 : (!(ts.length == 2 || ts.length == 3) || vs.length != ts.length) = true
  · rw [if_pos c1] at h
    injection h with h; subst h
    have c1' : (!(ts.length == 2 || ts.length == 3) || vs.length != ts.length || ScopeKind.function != ScopeKind.function) = true := by rw [c1]; rfl
    rw [if_pos c1']
  · rw [if_neg c1] at h
    have c1' : ¬ (!(ts.length == 2 || ts.length == 3) || vs.length != ts.length || ScopeKind.function != ScopeKind.function) = true := by
      rw [Bool.not_eq_true] at c1 ⊢
      rw [c1]; decide
    rw [if_neg c1']
    by_cases c2 : anyStar vs = true
    · rw [if_pos c2] at h
      injection h with h; subst h
      exact if_pos c2
    · rw [if_neg c2] at h
      refine (if_neg c2).trans ?_
      by_cases c3 : ((swNames env.scope ts).length != ts.length || (swNames env.scope ts).eraseDups.length != (swNames env.scope ts).length) = true
      · rw [if_pos c3] at h
        injection h with h; subst h
        exact if_pos c3
      · rw [if_neg c3] at h
        refine (if_neg c3).trans ?_
        by_cases c4 : vs.all (foldedForSure 8) = true
        · rw [if_pos c4] at h
          injection h with h; subst h
          exact if_pos c4
        · rw [if_neg c4] at h
          refine (if_neg c4).trans ?_
          by_cases c5 : vs.all (constantsAlone 8) = true
          · rw [if_pos c5] at h; cases h
          · rw [if_neg c5] at h
            injection h with h; subst h
            exact if_neg c5
def chkR (Γ : CI) : R → Expr → Bool
  | .e x, ee => chkE Γ x ee
  | .lst es, ee => match ee with
    | .List ees _ => chkEs Γ true es ees
    | _ => false
  | .dK, ee => match ee with
    | .Dict [] [] _ => true
    | _ => false
  | .dT, ee => match ee with
    | .Dict [] [] _ => true
    | _ => false
  | .lc own tg it cond elt, ee => chkE Γ (.lc own tg it cond elt) ee
def chkRs (Γ : CI) : List R → List Expr → Bool
  | [], [] => true
  | r :: rs, ee :: ees => noStar ee && chkR Γ r ee && chkRs Γ rs ees
  | _, _ => false
def isLc : R → Bool
  | .e (.lc ..) => true
  | .lc .. => true
  | _ => false
def swOk (Γ : CI) (tgs : List Expr) (ees : List Expr) (is : List Nat) (ns : List PySem.Str) : Bool := match tgs, ees, is with
  | [.Name x _, .Name y _], [_, _], [i, j] => decide (ns = [x, y]) && decide (i ≠ j) && decide (Γ.sc.names.lookup x = some .local) && decide (Γ.sc.names.lookup y = some .local)
  | [.Name x _, .Name y _, .Name z _], [_, _, _], [i, j, l] => decide (ns = [x, y, z]) && decide (i ≠ j) && decide (i ≠ l) && decide (j ≠ l) && decide (Γ.sc.names.lookup x = some .local) && decide (Γ.sc.names.lookup y = some .local) && decide (Γ.sc.names.lookup z = some .local)
  | _, _, _ => false
def isNon : E → Bool
  | .con .non => true
  | _ => false
mutual
def chkS (Γ : CI) : S → Stmt → Bool
  | .skip, st => match st with
    | .Pass _ => true
    | _ => false
  | .seq _ _, _ => false
  | .expr e, st => match st with
    | .Expr ee _ => noComp ee && chkE Γ e ee
    | _ => false
  | .asg i r, st => match st with
    | .Assign [.Name x p'] ee pos => decide (Γ.N[i]? = some x) && stB Γ x && funB Γ.sc && noSD ee && chkR Γ r ee && (!swB Γ.sc ee x p'.line || (isLc r && decide (Γ.sc.names.lookup x = some .local)))
    | _ => false
  | .par is rs, st => match st with
    | .Assign [.Tuple tgs _ _] (.Tuple ees _ _) _ => chkTg.chkNs Γ is tgs && chkRs Γ rs ees && decide (is.length ≤ 1000) && funB Γ.sc && (match swN Γ.sc tgs ees with
      | some none => true
      | some (some ns) => swOk Γ tgs ees is ns
      | none => false)
    | _ => false
  | .unp is e, st => match st with
    | .Assign [.Tuple tgs _ _] ee _ => chkTg.chkNs Γ is tgs && chkE Γ e ee && (match ee with
      | .Tuple ees _ _ => funB Γ.sc && decide (swN Γ.sc tgs ees = some none)
      | _ => true)
    | _ => false
  | .setI b i e, st => match st with
    | .Assign [.Subscript eb ei _] ee _ => noSlice ei && chkE Γ e ee && chkE Γ b eb && chkE Γ i ei
    | _ => false
  | .setO s i e, st => match st with
    | .Assign [.Subscript (.Name x _) ei _] ee _ => noSlice ei && chkE Γ e ee && decide (Γ.N[s]? = some x) && visB Γ.sc x && nmB x && chkE Γ i ei
    | _ => false
  | .app s e, st => match st with
    | .Expr (.Call (.Attribute (.Name x _) m apos) [ee] [] cpos) _ => decide (m = ("append" : PySem.Str)) && (apos.endLine == cpos.line) && decide (Γ.N[s]? = some x) && visB Γ.sc x && nmB x && noStar ee && chkE Γ e ee
    | _ => false
  | .ext s r, st => match st with
    | .Expr (.Call (.Attribute (.Name x _) m apos) [ee] [] cpos) _ => decide (m = ("extend" : PySem.Str)) && (apos.endLine == cpos.line) && decide (Γ.N[s]? = some x) && visB Γ.sc x && nmB x && noStar ee && chkR Γ r ee
    | _ => false
  | .ret e, st => match st with
    | .Return (some ee) _ => chkE Γ e ee
    | .Return none _ => isNon e
    | _ => false
  | .ife c a b, st => match st with
    | .If ec ba bb _ => chkE Γ c ec && chkSs Γ a ba && chkSs Γ b bb
    | _ => false
  | .whl c a, st => match st with
    | .While ec ba [] _ => chkE Γ c ec && chkSs Γ a ba
    | _ => false
  | .for_ tg it a, st => match st with
    | .For etg eit ba [] _ => chkTg Γ tg etg && chkI Γ it etg eit && noSet eit && chkSs Γ a ba
    | _ => false
  | .brk, st => match st with
    | .Break _ => true
    | _ => false
  | .cont, st => match st with
    | .Continue _ => true
    | _ => false
  | .frz _ a, st => chkS Γ a st
  | .kill _ a, st => chkS Γ a st
  | .never, _ => true
def chkSs (Γ : CI) : S → List Stmt → Bool
  | .skip, sts => match sts with
    | [] => true
    | _ => false
  | .seq a b, sts => match sts with
    | st :: rest => chkS Γ a st && chkSs Γ b rest
    | [] => false
  | .expr _, _ => false
  | .asg _ _, _ => false
  | .par _ _, _ => false
  | .unp _ _, _ => false
  | .setI _ _ _, _ => false
  | .setO _ _ _, _ => false
  | .app _ _, _ => false
  | .ext _ _, _ => false
  | .ret _, _ => false
  | .ife _ _ _, _ => false
  | .whl _ _, _ => false
  | .for_ _ _ _, _ => false
  | .brk, _ => false
  | .cont, _ => false
  | .frz _ _, _ => false
  | .kill _ _, _ => false
  | .never, _ => false
end
section
variable {T : Nat → Fn} {ck : List (List Ky)}
theorem lc_parts {own : List Nat} {tg : Tg} {it : MP.It} {cond : Op} {elt : E} {ee : Expr} {Γ : CI} (h : chkE Γ (.lc own tg it cond elt) ee = true) :
    ∃ eelt etg eit ifs scope pos o, ee = .ListComp eelt [⟨etg, eit, ifs, 0⟩] scope pos ∧ o.map (·.2) = own ∧ BlkOk Γ.N Γ.sc scope o ∧ (∀ i ∈ tgIx tg, i ∈ own) ∧ noSet eit = true ∧ chkTg (Γ.blk scope) tg etg = true ∧ chkI Γ it etg eit = true ∧ chkC (Γ.blk scope) cond ifs = true ∧ chkE (Γ.blk scope) elt eelt = true := by
  simp only [chkE] at h
  split at h
  · rename_i ee etg eit ifs scope pos
    simp only [Bool.and_eq_true] at h
    obtain ⟨⟨⟨⟨⟨⟨h1, h2⟩, h3⟩, h4⟩, h5⟩, h6⟩, h7⟩ := h
    split at h1
    · rename_i o ho
      exact ⟨ee, etg, eit, ifs, scope, pos, o, rfl, ownN_map ho, blkOk_by h1, fun i hi => by simpa using List.all_eq_true.mp h2 i hi, h3, h4, h5, h6, h7⟩
    · cases h1
  · cases h
theorem sR {r : R} {ee : Expr} {Γ : CI} {X : Cx} {W : WX} (h : chkR Γ r ee = true) (C : COk Γ X W T ck) : PE X ee (tR (kc X ck) W T r) := by
  cases r with
  | e x => exact r_e ((sE x h C).1 false)
  | lst es =>
    simp only [chkR] at h
    split at h
    · exact r_lst (sEs es h C).1
    · cases h
  | dK =>
    simp only [chkR] at h
    split at h
    · exact r_dK
    · cases h
  | dT =>
    simp only [chkR] at h
    split at h
    · exact r_dT
    · cases h
  | lc own tg it cond elt =>
    obtain ⟨eelt, etg, eit, ifs, scope, pos, o, rfl, rfl, ok, ho, h3, h4, h5, h6, h7⟩ := lc_parts h
    exact r_lc C.calm C.nd (sI it h5 C true) (by rw [C.N, C.sc]; exact ok) ho (fun s H c cl fp => tg_ok (C.blk s H c cl fp) h4) (fun s H c cl fp => sC cond h6 (C.blk s H c cl fp)) (fun s H c cl fp => (sE elt h7 (C.blk s H c cl fp)).1 false) (set_no h3)
theorem sRs : ∀ {rs : List R} {ees : List Expr} {Γ : CI} {X : Cx} {W : WX}, chkRs Γ rs ees = true → COk Γ X W T ck → PA X ees (tRs (kc X ck) W T rs)
  | [], [], _, _, _, _, _ => a_rnil
  | [], _ :: _, _, _, _, h, _ => by simp [chkRs] at h
  | _ :: _, [], _, _, _, h, _ => by simp [chkRs] at h
  | r :: rs, ee :: ees, Γ, X, W, h, C => by
    simp only [chkRs, Bool.and_eq_true] at h
    exact a_rcons (sR h.1.2 C) (sRs h.2 C) (star_no h.1.1)
theorem asg_sub {X : Cx} {eb ei : Expr} {pos' : Pos} (h : noSlice ei = true) : ∀ v, assign (.Subscript eb ei pos') X.env v = (do
      let ov ← holding [v] (eval eb X.env)
      let iv ← holding [v, ov] (eval ei X.env)
      standAt pos'
      holding [v, ov, iv] (setItem ov iv v)
      release [v, ov, iv] []) := by
  intro v
  cases ei <;> first | rfl | (simp [noSlice] at h; done)
mutual
theorem sS : ∀ (a : S) {st : Stmt} {Γ : CI} {X : Cx} {W : WX}, chkS Γ a st = true → COk Γ X W T ck → PassesOwn (model X.prog X.w) X.A X.env X.xe → PS X st (tS (kc X ck) W T a)
  | .skip, st, Γ, X, W, h, C, hp => by
    simp only [chkS] at h
    split at h
    · exact s_skip
    · cases h
  | .seq _ _, st, Γ, X, W, h, C, hp => by simp [chkS] at h
  | .expr e, st, Γ, X, W, h, C, hp => by
    simp only [chkS] at h
    split at h
    · rw [Bool.and_eq_true] at h
      exact s_expr ((sE e h.2 C).1 true) (sw_no h.1)
    · cases h
  | .asg i r, st, Γ, X, W, h, C, hp => by
    simp only [chkS] at h
    split at h
    · rename_i x p' ee pos
      simp only [Bool.and_eq_true, decide_eq_true_eq] at h
      obtain ⟨⟨⟨⟨⟨h1, h2⟩, h3⟩, h4⟩, h5⟩, h6⟩ := h
      obtain ⟨l1, l2⟩ := st_ok C h2
      have hk : X.env.scope.kind = .function := by rw [C.sc]; exact fun_ok h3
      have sw := sw_dec (env := X.env) (x := x) (p := p') (l := pos.line) hk h4
      rw [C.sc] at sw
      rw [Bool.or_eq_true, Bool.not_eq_true', Bool.and_eq_true, decide_eq_true_eq] at h6
      by_cases hsw : swB Γ.sc ee x p'.line = true
      · rcases h6 with h6 | ⟨h6, h7⟩
        · rw [hsw] at h6; cases h6
        · rw [hsw] at sw
          have key : ∀ {own : List Nat} {tg : Tg} {it : MP.It} {cond : Op} {elt : E}, (r = .e (.lc own tg it cond elt) ∨ r = .lc own tg it cond elt) → chkE Γ (.lc own tg it cond elt) ee = true → PS X (.Assign [.Name x p'] ee pos) (tS (kc X ck) W T (.asg i r)) := fun {own tg it cond elt} hr hh => by
            obtain ⟨eelt, etg, eit, ifs, scope, lpos, o, rfl, rfl, ok, ho, k3, k4, k5, k6, k7⟩ := lc_parts hh
            exact s_asgLc hr C.calm C.nd (by rw [C.N]; exact h1) (by rw [C.sc]; exact h7) sw (sI it k5 C true) (by rw [C.N, C.sc]; exact ok) ho (fun s H c cl fp => tg_ok (C.blk s H c cl fp) k4) (fun s H c cl fp => sC cond k6 (C.blk s H c cl fp)) (fun s H c cl fp => (sE elt k7 (C.blk s H c cl fp)).1 false) (set_no k3)
          cases r with
          | e y =>
            cases y <;> first | (simp [isLc] at h6; done) | skip
            exact key (.inl rfl) h5
          | lc own tg it cond elt => exact key (.inr rfl) h5
          | _ => simp [isLc] at h6
      · rw [Bool.not_eq_true] at hsw
        rw [hsw] at sw
        exact s_asg C.nd (by rw [C.N]; exact h1) l1 (sR h5 C) sw l2
    · cases h
  | .par is rs, st, Γ, X, W, h, C, hp => by
    simp only [chkS] at h
    split at h
    · rename_i tgs k pt ees k' pe pos
      simp only [Bool.and_eq_true, decide_eq_true_eq] at h
      obtain ⟨⟨⟨⟨h1, h2⟩, h3⟩, h4⟩, h5⟩ := h
      have hk : X.env.scope.kind = .function := by rw [C.sc]; exact fun_ok h4
      obtain ⟨p, l, f⟩ := tgNs_ok C h1
      split at h5
      · rename_i hs
        exact s_par C.calm (sRs h2 C) p l f h3 (sw_stores hk (by rw [C.sc]; exact hs))
      · rename_i ns hs
        have hst := sw_stores (k := k) (k' := k') (p := pt) (p' := pe) hk (by rw [C.sc]; exact hs)
        unfold swOk at h5
        split at h5
        · rename_i x px y py a b i j
          simp only [Bool.and_eq_true, decide_eq_true_eq] at h5
          obtain ⟨⟨⟨rfl, q1⟩, q2⟩, q3⟩ := h5
          simp only [chkTg.chkNs, Bool.and_eq_true, decide_eq_true_eq] at h1
          exact s_par2 C.calm C.nd (by rw [C.N]; exact h1.1.1) (by rw [C.N]; exact h1.2.1.1) q1 (by rw [C.sc]; exact q2) (by rw [C.sc]; exact q3) (sRs h2 C) hst
        · rename_i x px y py z pz a b c i j l
          simp only [Bool.and_eq_true, decide_eq_true_eq] at h5
          obtain ⟨⟨⟨⟨⟨⟨rfl, q1⟩, q2⟩, q3⟩, q4⟩, q5⟩, q6⟩ := h5
          simp only [chkTg.chkNs, Bool.and_eq_true, decide_eq_true_eq] at h1
          exact s_par3 C.calm C.nd (by rw [C.N]; exact h1.1.1) (by rw [C.N]; exact h1.2.1.1) (by rw [C.N]; exact h1.2.2.1.1) q1 q2 q3 (by rw [C.sc]; exact q4) (by rw [C.sc]; exact q5) (by rw [C.sc]; exact q6) (sRs h2 C) hst
        · cases h5
      · cases h5
    · cases h
  | .unp is e, st, Γ, X, W, h, C, hp => by
    simp only [chkS] at h
    split at h
    · rename_i tgs k pt ee pos
      simp only [Bool.and_eq_true] at h
      obtain ⟨⟨h1, h2⟩, h3⟩ := h
      obtain ⟨p, l, f⟩ := tgNs_ok C h1
      refine s_unp C.calm ((sE e h2 C).1 false) p l f sw_tup ?_
      split at h3
      · simp only [Bool.and_eq_true, decide_eq_true_eq] at h3
        exact sw_stores (by rw [C.sc]; exact fun_ok h3.1) (by rw [C.sc]; exact h3.2)
      · rename_i hn
        refine stores_no ?_
        cases ee <;> first | rfl | exact absurd rfl (hn _ _ _)
    · cases h
  | .setI b i e, st, Γ, X, W, h, C, hp => by
    simp only [chkS] at h
    split at h
    · simp only [Bool.and_eq_true] at h
      obtain ⟨⟨⟨h1, h2⟩, h3⟩, h4⟩ := h
      exact s_setI C.un ((sE e h2 C).1 false) ((sE b h3 C).1 true) ((sE i h4 C).1 true) (asg_sub h1) sw_sub stores_sub
    · cases h
  | .setO s i e, st, Γ, X, W, h, C, hp => by
    simp only [chkS] at h
    split at h
    · simp only [Bool.and_eq_true, decide_eq_true_eq] at h
      obtain ⟨⟨⟨⟨⟨h1, h2⟩, h3⟩, h4⟩, h5⟩, h6⟩ := h
      exact s_setO C.un ((sE e h2 C).1 false) (by rw [C.N]; exact h3) (by rw [C.sc]; exact vis_ok h4) (nm_ok h5).1 (nm_ok h5).2.1 ((sE i h6 C).1 true) (asg_sub h1) sw_sub stores_sub
    · cases h
  | .app s e, st, Γ, X, W, h, C, hp => by
    simp only [chkS] at h
    split at h
    · simp only [Bool.and_eq_true, decide_eq_true_eq] at h
      obtain ⟨⟨⟨⟨⟨⟨rfl, h2⟩, h3⟩, h4⟩, h5⟩, h6⟩, h7⟩ := h
      exact s_app (by rw [C.N]; exact h3) (by rw [C.sc]; exact vis_ok h4) (nm_ok h5).1 (nm_ok h5).2.1 ((sE e h7 C).1 false) (star_no h6) h2
    · cases h
  | .ext s r, st, Γ, X, W, h, C, hp => by
    simp only [chkS] at h
    split at h
    · simp only [Bool.and_eq_true, decide_eq_true_eq] at h
      obtain ⟨⟨⟨⟨⟨⟨rfl, h2⟩, h3⟩, h4⟩, h5⟩, h6⟩, h7⟩ := h
      exact s_ext (by rw [C.N]; exact h3) (by rw [C.sc]; exact vis_ok h4) (nm_ok h5).1 (nm_ok h5).2.1 (sR h7 C) (star_no h6) h2
    · cases h
  | .ret e, st, Γ, X, W, h, C, hp => by
    simp only [chkS] at h
    split at h
    · exact s_ret ((sE e h C).1 false)
    · unfold isNon at h
      split at h
      · exact s_retN
      · cases h
    · cases h
  | .ife c a b, st, Γ, X, W, h, C, hp => by
    simp only [chkS] at h
    split at h
    · simp only [Bool.and_eq_true] at h
      exact s_ife ((sE c h.1.1 C).2 true) (sSs a h.1.2 C hp) (sSs b h.2 C hp)
    · cases h
  | .whl c a, st, Γ, X, W, h, C, hp => by
    simp only [chkS] at h
    split at h
    · simp only [Bool.and_eq_true] at h
      exact s_whl hp ((sE c h.1 C).2 true) (sSs a h.2 C hp)
    · cases h
  | .for_ tg it a, st, Γ, X, W, h, C, hp => by
    simp only [chkS] at h
    split at h
    · simp only [Bool.and_eq_true] at h
      obtain ⟨⟨⟨h1, h2⟩, h3⟩, h4⟩ := h
      exact s_for hp C.calm (sI it h2 C false) (tg_ok C h1) (sSs a h4 C hp) (set_no h3)
    · cases h
  | .brk, st, Γ, X, W, h, C, hp => by
    simp only [chkS] at h
    split at h
    · exact s_brk
    · cases h
  | .cont, st, Γ, X, W, h, C, hp => by
    simp only [chkS] at h
    split at h
    · exact s_cont
    · cases h
  | .frz is a, st, Γ, X, W, h, C, hp => s_frz (sS a (by simpa only [chkS] using h) C hp)
  | .kill is a, st, Γ, X, W, h, C, hp => s_kill (sS a (by simpa only [chkS] using h) C hp)
  | .never, st, Γ, X, W, h, C, hp => s_never
theorem sSs : ∀ (a : S) {sts : List Stmt} {Γ : CI} {X : Cx} {W : WX}, chkSs Γ a sts = true → COk Γ X W T ck → PassesOwn (model X.prog X.w) X.A X.env X.xe → PSs X sts (tS (kc X ck) W T a)
  | .skip, sts, Γ, X, W, h, C, hp => by
    simp only [chkSs] at h
    split at h
    · exact ss_nil
    · cases h
  | .seq a b, sts, Γ, X, W, h, C, hp => by
    simp only [chkSs] at h
    split at h
    · rw [Bool.and_eq_true] at h
      exact ss_cons (sS a h.1 C hp) (sSs b h.2 C hp)
    · cases h
  | .expr _, _, _, _, _, h, _, _ => by simp [chkSs] at h
  | .asg _ _, _, _, _, _, h, _, _ => by simp [chkSs] at h
  | .par _ _, _, _, _, _, h, _, _ => by simp [chkSs] at h
  | .unp _ _, _, _, _, _, h, _, _ => by simp [chkSs] at h
  | .setI _ _ _, _, _, _, _, h, _, _ => by simp [chkSs] at h
  | .setO _ _ _, _, _, _, _, h, _, _ => by simp [chkSs] at h
  | .app _ _, _, _, _, _, h, _, _ => by simp [chkSs] at h
  | .ext _ _, _, _, _, _, h, _, _ => by simp [chkSs] at h
  | .ret _, _, _, _, _, h, _, _ => by simp [chkSs] at h
  | .ife _ _ _, _, _, _, _, h, _, _ => by simp [chkSs] at h
  | .whl _ _, _, _, _, _, h, _, _ => by simp [chkSs] at h
  | .for_ _ _ _, _, _, _, _, h, _, _ => by simp [chkSs] at h
  | .brk, _, _, _, _, h, _, _ => by simp [chkSs] at h
  | .cont, _, _, _, _, h, _, _ => by simp [chkSs] at h
  | .frz _ _, _, _, _, _, h, _, _ => by simp [chkSs] at h
  | .kill _ _, _, _, _, _, h, _, _ => by simp [chkSs] at h
  | .never, _, _, _, _, h, _, _ => by simp [chkSs] at h
end
end
end MP
set_option maxHeartbeats 4000000
set_option autoImplicit false
namespace MP
open PySem PySem.Spec PyProof.Rows L2
theorem tab_lt {ck : List (List Ky)} {ds : List Def} : ∀ {n i : Nat}, i < n → tab ck ds n i = match ds[i]? with
    | some d => runD ck (tab ck ds i) d
    | none => fun _ _ => .bad
  | 0, i, h => by omega
  | n + 1, i, h => by
    unfold tab
    by_cases c : i < n
    · rw [if_pos c, tab_lt c]
    · have e : i = n := by omega
      subst e
      (rw [if_neg c, if_pos rfl]) <;> (try rfl)
theorem tab_def {ck : List (List Ky)} {ds : List Def} {n i : Nat} {d : Def} (h : i < n) (e : ds[i]? = some d) : tab ck ds n i = runD ck (tab ck ds i) d := by
  rw [tab_lt h, e]
structure DR where
  gx : PySem.Str
  x : PySem.Str
  args : Arguments
  body : List Stmt
  scope : Scope
  N : List PySem.Str
  ps : List PySem.Str
  d : S
def DR.def_ (r : DR) : Def := ⟨r.N.length, r.ps.length, r.d⟩
def nodupB (l : List PySem.Str) : Bool := match l with
  | [] => true
  | a :: r => !r.contains a && nodupB r
theorem nodup_ok : ∀ {l : List PySem.Str}, nodupB l = true → l.Nodup
  | [], _ => List.nodup_nil
  | a :: r, h => by
    simp only [nodupB, Bool.and_eq_true, Bool.not_eq_true'] at h
    refine List.nodup_cons.mpr ⟨fun hm => ?_, nodup_ok h.2⟩
    have := List.contains_iff_mem.mpr hm
    rw [h.1] at this; cases this
def scB (r : DR) : Bool := funB r.scope && !r.scope.isCoroutine && !r.scope.isGenerator && nodupB r.N && decide (r.N.take r.ps.length = r.ps) && (r.ps.all fun x => match r.scope.names.lookup x with | some .local => true | some .cell => true | _ => false) && (r.scope.names.all fun y => match y.2 with | .free => false | _ => true)
theorem sc_ok {r : DR} (h : scB r = true) : FnScope r.N r.ps r.scope := by
  unfold scB at h
  simp only [Bool.and_eq_true, Bool.not_eq_true', decide_eq_true_eq, List.all_eq_true] at h
  obtain ⟨⟨⟨⟨⟨⟨h1, h2⟩, h3⟩, h4⟩, h5⟩, h6⟩, h7⟩ := h
  refine ⟨fun_ok h1, h2, h3, nodup_ok h4, h5, fun x hx => ?_, fun y hy e => ?_⟩
  · have := h6 x hx
    split at this <;> simp_all
  · have := h7 y hy
    rw [e] at this; cases this
def gi (rows : List DR) (gl : List (PySem.Str × Val)) (math : Bool) : GI := ⟨rows.map fun r => (r.gx, r.ps.length), gl, math⟩
def okB (rows : List DR) (gl : List (PySem.Str × Val)) (math : Bool) (i : Nat) (r : DR) : Bool := scB r && chkSs ⟨gi rows gl math, r.N, r.scope, fun _ => true, i⟩ r.d r.body
section
variable {P : Program} {w : World} {K : PySem.W.Frag} {mg : PySem.Str → Option Value} {base : Heap} {ck : List (List Ky)}
theorem start_st {H : Hp} {B ρ : List Addr} {Vs : List V} {vs : List Val} {h : MH} {N : List PySem.Str} {n : Nat} (hn : n = N.length) (hl : vs.length ≤ n) (r : RepL ⟨K, ck⟩ (off H (B ++ ρ)) ρ Vs vs) (hb : ∀ a ∈ B, a ∉ ρ ∧ ∃ o, H a = some o) (m : MHR ⟨K, ck⟩ H (B ++ ρ) ρ h) :
    St ⟨K, ck⟩ H ρ B B ρ (startS n vs) h (L2.start N Vs) H := by
  have hV := r.length
  have at_ : ∀ (i : Nat) (s : Sl), (startS n vs)[i]? = some s → s ≠ .e → ∃ v, s = .v v ∧ vs[i]? = some v := fun i s e hs => by
    unfold startS at e
    by_cases hi : i < vs.length
    · rw [List.getElem?_append_left (by simpa using hi), List.getElem?_map] at e
      obtain ⟨v, e1, rfl⟩ := Option.map_eq_some_iff.mp e
      exact ⟨v, rfl, e1⟩
    · rw [List.getElem?_append_right (by simpa using hi), List.getElem?_replicate] at e
      split at e
      · injection e with e; exact absurd e.symm hs
      · cases e
  refine ⟨?_, fun i x e => ?_, fun i x e => ?_, fun i j x y a e => ?_, fun a ha => (hb a ha).1, fun a ha => (hb a ha).2, fun a ha => ha, m, List.prefix_rfl, fun a ha => by simp at ha, fun a o e _ => e, fun a o e => ⟨o, e⟩⟩
  · unfold L2.start startS
    simp only [List.length_append, List.length_map, List.length_replicate]
    omega
  · obtain ⟨v, e1, e2⟩ := at_ i _ e (by simp)
    cases e1
    obtain ⟨z, e3, rz⟩ := r.get e2
    refine ⟨z, ?_, rz⟩
    unfold L2.start
    have hi := (List.getElem?_eq_some_iff.mp e3).1
    rw [List.getElem?_append_left (by simpa using hi), List.getElem?_map, e3]; rfl
  · obtain ⟨v, e1, e2⟩ := at_ i _ e (by simp)
    cases e1
  · obtain ⟨v, e1, e2⟩ := at_ i _ e (by simp)
    cases e1
theorem fn_ok {rows : List DR} {gl : List (PySem.Str × Val)} {math : Bool} {i : Nat} {r : DR} {f : Addr} {fd : FuncData} (ok : okB rows gl math i r = true) (F : FunD K r.x r.x r.args r.body r.scope [] [] f fd)
    (G : ∀ X : Cx, X.prog = P → X.w = w → X.K = K → X.mg = mg → X.base = base → Quiet i X.A → GOk (gi rows gl math) i X (tab ck (rows.map DR.def_) i) ck) (hi : i ≤ 900) :
    FnG P w K mg base (L2.CX P w) (i + 1) f fd r.ps (spF ⟨K, ck⟩ (runD ck (tab ck (rows.map DR.def_) i) r.def_) r.ps.length) := by
  unfold okB at ok
  rw [Bool.and_eq_true] at ok
  have S := sc_ok ok.1
  refine fn_quiet F S (fun vs H Q E h => ?_) (fun cdv A outer s H Vs Q E hr h => ⟨tS ⟨K, ck⟩ (fun cls d _ H => E cls d H) (tab ck (rows.map DR.def_) i) r.d, ?_, ?_⟩)
  · obtain ⟨B, ρ, us, h, hl, rl, _⟩ := h
    rw [rl.length, hl]
  · refine sSs (T := tab ck (rows.map DR.def_) i) (ck := ck) r.d ok.2 ⟨rfl, S.nd, rfl, fun _ _ => rfl, rfl, ?_, takes_of rfl rfl rfl rfl, G _ rfl rfl rfl rfl rfl hr⟩ (passes_of rfl)
    have := hr.room.un
    show (A.deeper _).units + 65 < cLine
    omega
  · obtain ⟨B, ρ, vs, h, hl, rl, hb, m, p⟩ := h
    have hn : r.ps.length ≤ r.N.length := by
      have := congrArg List.length S.pre
      rw [List.length_take] at this
      omega
    have p' : Pst ⟨K, ck⟩ (fun c d _ H => E c d H) [] B ρ H (fun H' ρ' z v => Rep ⟨K, ck⟩ (off H' (B ++ ρ')) ρ' z v) Q ((evS (tab ck (rows.map DR.def_) i) ck r.d (startS r.N.length vs) h).bind fun r h1 => match r with
      | .rt v => .ok v h1
      | .nx _ => .ok .non h1
      | _ => .bad) := by
      have e : runD ck (tab ck (rows.map DR.def_) i) r.def_ vs h = _ := if_pos hl
      rw [e] at p
      exact p
    refine ⟨H, ρ, B, B, ρ, startS r.N.length vs, h, start_st rfl (by omega) rl hb m, ?_⟩
    show PF _ _ _ _ _ _ _ _ _ (evS (tab ck (rows.map DR.def_) i) ck r.d (startS r.N.length vs) h)
    cases e : evS (tab ck (rows.map DR.def_) i) ck r.d (startS r.N.length vs) h with
    | bad => rw [e] at p'; exact p'
    | exc x h' => rw [e] at p'; exact fun cls d σ' ρ' H' g mh ex => p' cls d ρ' H' g mh ex
    | ok q h' =>
      rw [e] at p'
      cases q with
      | rt v => exact fun z ρ' H' g mh rz => p' z ρ' H' g mh rz
      | nx η' => exact fun O' ρ' σ' H' S' _ => p' .non ρ' H' S'.grown (S'.mh.less S'.bar) .non
      | bk η' => exact p'.elim
      | ct η' => exact p'.elim
end
end MP
set_option maxHeartbeats 4000000
set_option autoImplicit false
namespace MP
open PySem PySem.Spec PyProof.Rows L2
abbrev Get := Addr → Option Obj
mutual
def vB (g : Get) (ck : List (List Ky)) : Val → Value → Bool
  | .non, u => match u with
    | .none => true
    | _ => false
  | .bl b, u => match u with
    | .bool c => decide (b = c)
    | _ => false
  | .int i, u => match u with
    | .int j _ => decide (i = j)
    | _ => false
  | .str s, u => match u with
    | .str y _ => decide (y = tx s) && s.all fun c => decide (c < 0x110000)
    | _ => false
  | .tup vs, u => match u with
    | .ref a => (match g a with
      | some ⟨.type c, _, .seq its _, _⟩ => decide (c = "tuple") && decide (its.size ≤ sizeLine) && vsB g ck vs its.toList && (match keysOf vs with
        | some k => hasK k ck
        | none => true)
      | _ => false)
    | _ => false
  | .lst _, _ => false
  | .dK _ _, _ => false
  | .dT _ _, _ => false
  | .obj _, _ => false
def vsB (g : Get) (ck : List (List Ky)) : List Val → List Value → Bool
  | [], us => us.isEmpty
  | v :: vs, us => match us with
    | u :: us => vB g ck v u && vsB g ck vs us
    | [] => false
end
section
variable {K : PySem.W.Frag} {ck : List (List Ky)}
mutual
theorem vB_ok : ∀ (v : Val) {u : Value}, vB (fun a => K.lookup a) ck v u = true → ∃ z, RelV z u ∧ ∀ H M ρ, Rep ⟨K, ck⟩ (off H M) ρ z v
  | .non, u, h => by
    simp only [vB] at h
    split at h
    · exact ⟨.non, rfl, fun _ _ _ => .non⟩
    · cases h
  | .bl b, u, h => by
    simp only [vB] at h
    split at h
    · rw [decide_eq_true_eq] at h; subst h
      exact ⟨.bl b, rfl, fun _ _ _ => .bl b⟩
    · cases h
  | .int i, u, h => by
    simp only [vB] at h
    split at h
    · rw [decide_eq_true_eq] at h; subst h
      exact ⟨.int i, ⟨_, rfl⟩, fun _ _ _ => .int i⟩
    · cases h
  | .str s, u, h => by
    simp only [vB] at h
    split at h
    · rw [Bool.and_eq_true, decide_eq_true_eq] at h
      obtain ⟨rfl, h⟩ := h
      exact ⟨.str (tx s), ⟨_, rfl⟩, fun _ _ _ => .str s fun c hc => of_decide_eq_true (List.all_eq_true.mp h c hc)⟩
    · cases h
  | .tup vs, u, h => by
    simp only [vB] at h
    split at h
    · split at h
      · rename_i a _ c od its n sl e
        simp only [Bool.and_eq_true, decide_eq_true_eq] at h
        obtain ⟨⟨⟨rfl, h2⟩, h3⟩, h4⟩ := h
        obtain ⟨zs, rv, rl⟩ := vsB_ok vs h3
        refine ⟨.ref a, rfl, fun H M ρ => .tupK ⟨_, its, n, e, rfl, rfl, h2, rv⟩ (fun k hk => ?_) (rl H M ρ)⟩
        rw [hk] at h4; exact h4
      · cases h
    · cases h
  | .lst _, _, h => by simp [vB] at h
  | .dK _ _, _, h => by simp [vB] at h
  | .dT _ _, _, h => by simp [vB] at h
  | .obj _, _, h => by simp [vB] at h
theorem vsB_ok : ∀ (vs : List Val) {us : List Value}, vsB (fun a => K.lookup a) ck vs us = true → ∃ zs, Vals zs us ∧ ∀ H M ρ, RepL ⟨K, ck⟩ (off H M) ρ zs vs
  | [], us, h => by
    simp only [vsB, List.isEmpty_iff] at h
    subst h
    exact ⟨[], .nil, fun _ _ _ => .nil⟩
  | v :: vs, us, h => by
    simp only [vsB] at h
    split at h
    · rw [Bool.and_eq_true] at h
      obtain ⟨z, r, q⟩ := vB_ok v h.1
      obtain ⟨zs, rs, qs⟩ := vsB_ok vs h.2
      exact ⟨z :: zs, .cons r rs, fun H M ρ => .cons (q H M ρ) (qs H M ρ)⟩
    · cases h
end
end
abbrev FnO : Type := Option (PySem.Str × PySem.Str × Arguments × FuncBody × Scope × Addr × List (PySem.Str × Addr) × Addr × Value × Option PySem.Str)
def codeNm (g : Get) : Value → Option PySem.Str
  | .ref c => match g c with
    | some ⟨_, _, .fields vs, _⟩ => (match vs.toList with
      | _ :: .str n _ :: _ => some n
      | _ => none)
    | _ => none
  | _ => none
def fnAt (g : Get) : Value → FnO
  | .ref a => match g a with
    | some ⟨_, _, .func fd, _⟩ => some (fd.name, fd.qualname, fd.params, fd.body, fd.scope, fd.globals, fd.closure, fd.builtins, fd.defaults, codeNm g fd.code)
    | _ => none
  | _ => none
inductive Wn where
  | fn (r : DR) | con (v : Val) | blt (s : String) | any
abbrev wa (x : PySem.Str) : PySem.Str × Wn := (x, .any)
abbrev wf (x : PySem.Str) (r : DR) : PySem.Str × Wn := (x, .fn r)
abbrev wc (x : PySem.Str) (v : Val) : PySem.Str × Wn := (x, .con v)
abbrev wb (x : PySem.Str) (b : String) : PySem.Str × Wn := (x, .blt b)
def Wn.obs (g : Get) (ck : List (List Ky)) : Wn → Value → Bool × FnO
  | .fn _, u => (true, fnAt g u)
  | .con v, u => (vB g ck v u, none)
  | .blt s, u => (match u with
    | .builtin t => decide (t = s)
    | _ => false, none)
  | .any, _ => (true, none)
def Wn.val : Wn → Bool × FnO
  | .fn r => (true, some (r.x, r.x, r.args, .stmts r.body, r.scope, mainGlobals, [], builtinsNs, .none, some r.x))
  | _ => (true, none)
def keyS : Value → Option PySem.Str
  | .str s _ => some s
  | _ => none
def ents (g : Get) : List DictEntry := match g mainGlobals with
  | some ⟨_, _, .dict es _, _⟩ => es.toList
  | _ => []
structure HD where
  rows : List DR
  gl : List (PySem.Str × Val)
  math : Bool
  ck : List (List Ky)
  wn : List (PySem.Str × Wn)
def HD.ahead (D : HD) (e : DictEntry) : Bool := match keyS e.key with
  | some s => !decide (some s = D.wn.head?.map (·.1))
  | none => true
def HD.preOk (D : HD) (e : DictEntry) : Bool := match keyS e.key with
  | some s => !(D.wn.any fun w => decide (w.1 = s)) && !(bnames.any fun x => decide (x = s))
  | none => false
abbrev ObT : Type := Bool × List (Option PySem.Str) × List (Bool × FnO)
def obsM (D : HD) (g : Get) : ObT := (((ents g).takeWhile D.ahead).all D.preOk, ((ents g).dropWhile D.ahead).map (fun e => keyS e.key), List.zipWith (fun w e => w.2.obs g D.ck e.val) D.wn ((ents g).dropWhile D.ahead))
def valM (D : HD) : ObT := (true, D.wn.map fun w => some w.1, D.wn.map fun w => w.2.val)
def SaysM (D : HD) (K : PySem.W.Frag) : Prop := obsM D (fun a => K.lookup a) = valM D
def fullK (h : Heap) : PySem.W.Frag := He.frG h.get? (List.range h.objs.size)
theorem frG_mem {g : Get} {a : Addr} : ∀ {as : List Addr}, a ∈ as → (He.frG g as).lookup a = g a
  | b :: as, hm => by
    unfold He.frG
    rw [List.filterMap_cons]
    by_cases e : a = b
    · subst e
      cases q : g a with
      | none =>
        simp only [Option.map_none]
        cases q2 : (He.frG g as).lookup a with
        | none => exact q2
        | some o =>
          have := He.frG_at as q2
          rw [q] at this; cases this
      | some o => simp [List.lookup]
    · have hm' : a ∈ as := by
        rcases List.mem_cons.mp hm with z | z
        · exact absurd z e
        · exact z
      have ih := frG_mem (g := g) hm'
      cases q : g b with
      | none => simp only [Option.map_none]; exact ih
      | some o =>
        simp only [Option.map_some, List.lookup]
        have : (a == b) = false := beq_eq_false_iff_ne.mpr e
        rw [this]; exact ih
theorem full_at (h : Heap) (a : Addr) : (fullK h).lookup a = h.get? a := by
  by_cases la : a < h.objs.size
  · exact frG_mem (List.mem_range.mpr la)
  · cases q : h.get? a with
    | none =>
      cases q2 : (fullK h).lookup a with
      | none => rfl
      | some o =>
        have := He.frG_at _ q2
        rw [q] at this; cases this
    | some o => exact absurd (Heap.lt_size q) la
def hookM (D : HD) : PySem.W.Hook where
  α := ObT
  obs := fun s => obsM D s.heap.get?
  val := fun _ => valM D
  says := fun _ h => ∃ K : PySem.W.Frag, K.In h ∧ SaysM D K
  of := fun _ s e => ⟨fullK s.heap, fun a o z => by rw [full_at] at z; exact z, by
    have q : (fun a => (fullK s.heap).lookup a) = s.heap.get? := funext (full_at s.heap)
    unfold SaysM
    rw [q]; exact e⟩
  keeps := fun _ _ _ ⟨K, hK, c⟩ k => ⟨K, PySem.W.Frag.In.keeps hK k, c⟩
def obM (D : HD) (g : Get) : ObT := obsM D g
theorem obM_eq {D : HD} {g : Get} {s : Shared} (h : ∀ a, g a = s.heap.get? a) : obM D g = (hookM D).obs s := by
  have e : g = s.heap.get? := funext h
  rw [e]; rfl
def BindP (r : DR) : Prop := ∀ (kV doc pm : Value) (an : Option Addr) (cdv ct : Value) (us : List Value), us.length = r.ps.length → bindArgs (PySem.W.fnOf r.x r.x r.args r.body r.scope .none kV doc pm an cdv ct) ⟨us, []⟩ = pure (r.ps.zip us)
structure HD.Ok (D : HD) : Prop where
  chk : ∀ (i : Nat) (r : DR), D.rows[i]? = some r → okB D.rows D.gl D.math i r = true
  bnd : ∀ (i : Nat) (r : DR), D.rows[i]? = some r → BindP r
  few : D.rows.length ≤ 300
  ne : D.wn ≠ []
  nd : (D.wn.map (·.1)).Nodup
  free : ∀ x ∈ bnames, x ∉ D.wn.map (·.1)
  rin : ∀ (i : Nat) (r : DR), D.rows[i]? = some r → (r.gx, Wn.fn r) ∈ D.wn
  gin : ∀ p ∈ D.gl, (p.1, Wn.con p.2) ∈ D.wn
  min : D.math = true → (("gcd" : PySem.Str), Wn.blt "math.gcd") ∈ D.wn ∧ (("isqrt" : PySem.Str), Wn.blt "math.isqrt") ∈ D.wn
section
variable {D : HD} {P : Program} {w : World} {K : PySem.W.Frag} {mg : PySem.Str → Option Value} {h base : Heap}
theorem find_names {x : PySem.Str} {e : DictEntry} : ∀ {es : List DictEntry} {ws : List PySem.Str} {j : Nat}, (es.map fun e => keyS e.key) = ws.map some → ws.Nodup → es[j]? = some e → ws[j]? = some x → es.find? (·.key.isStr x) = some e
  | [], ws, j, _, _, h, _ => by simp at h
  | e0 :: es, [], j, hk, _, _, _ => by simp at hk
  | e0 :: es, y :: ws, j, hk, nd, he, hx => by
    rw [List.map_cons, List.map_cons, List.cons.injEq] at hk
    rw [List.nodup_cons] at nd
    have key : ∃ t, e0.key = .str y t := by
      have k := hk.1
      unfold keyS at k
      split at k
      · rename_i s t q
        exact ⟨t, by rw [q, Option.some.inj k]⟩
      · cases k
    obtain ⟨t, key⟩ := key
    cases j with
    | zero =>
      simp only [List.getElem?_cons_zero, Option.some.injEq] at he hx
      subst he hx
      rw [List.find?_cons]
      have : e0.key.isStr y = true := by rw [key]; simp [Value.isStr]
      rw [this]
    | succ j =>
      simp only [List.getElem?_cons_succ] at he hx
      have ne : y ≠ x := fun z => nd.1 (by rw [z]; exact List.mem_of_getElem? hx)
      rw [List.find?_cons]
      have : e0.key.isStr x = false := by rw [key]; simp [Value.isStr, ne]
      rw [this]
      exact find_names hk.2 nd.2 he hx
theorem pre_none {x : PySem.Str} {es : List DictEntry} (h : es.all D.preOk = true) (hx : x ∈ D.wn.map (·.1) ∨ x ∈ bnames) : es.find? (·.key.isStr x) = none := by
  rw [List.find?_eq_none]
  intro e he q
  have k := List.all_eq_true.mp h e he
  unfold HD.preOk keyS at k
  split at k
  · rename_i s e1
    split at e1
    · rename_i s' t e2
      injection e1 with e1
      subst e1
      rw [e2] at q
      have sx : s' = x := by simpa [Value.isStr] using q
      subst sx
      rw [Bool.and_eq_true, Bool.not_eq_true', Bool.not_eq_true'] at k
      rcases hx with hx | hx
      · obtain ⟨w, hw, e3⟩ := List.mem_map.mp hx
        have := List.any_eq_false.mp k.1 w hw
        exact this (decide_eq_true e3)
      · have := List.any_eq_false.mp k.2 s' hx
        exact this (decide_eq_true rfl)
    · cases e1
  · cases k
theorem ents_ns {x : PySem.Str} {e : DictEntry} (h : (ents fun a => K.lookup a).find? (·.key.isStr x) = some e) : PySem.W.nsIn K mainGlobals x = some (some e.val) := by
  unfold ents at h
  unfold PySem.W.nsIn
  split at h
  · rename_i q
    have q' := q
    simp only [] at q'
    rw [q']
    simp only [h]
  · cases h
theorem said_at (ok : D.Ok) (c : SaysM D K) {x : PySem.Str} {w : Wn} (hm : (x, w) ∈ D.wn) : ∃ u, PySem.W.nsIn K mainGlobals x = some (some u) ∧ w.obs (fun a => K.lookup a) D.ck u = w.val := by
  unfold SaysM obsM valM at c
  simp only [Prod.mk.injEq] at c
  obtain ⟨c1, c2, c3⟩ := c
  obtain ⟨j, hj⟩ := List.getElem?_of_mem hm
  have e1 : (D.wn.map (·.1))[j]? = some x := by rw [List.getElem?_map, hj]; rfl
  have c2' : ((ents fun a => K.lookup a).dropWhile D.ahead).map (fun e => keyS e.key) = (D.wn.map (·.1)).map some := by rw [c2, List.map_map]; rfl
  have len : ((ents fun a => K.lookup a).dropWhile D.ahead).length = D.wn.length := by
    have := congrArg List.length c2
    simpa using this
  have lj := (List.getElem?_eq_some_iff.mp hj).1
  obtain ⟨e, he⟩ : ∃ e, ((ents fun a => K.lookup a).dropWhile D.ahead)[j]? = some e := ⟨_, List.getElem?_eq_getElem (by omega)⟩
  have f := find_names c2' ok.nd he e1
  refine ⟨e.val, ents_ns (e := e) ?_, ?_⟩
  · rw [← List.takeWhile_append_dropWhile (p := D.ahead) (l := ents fun a => K.lookup a), List.find?_append, pre_none c1 (.inl (List.mem_of_getElem? e1))]
    exact f
  · have q := congrArg (·[j]?) c3
    simp only [List.getElem?_zipWith, List.getElem?_map, hj, he, Option.map_some] at q
    exact Option.some.inj q
theorem said_free (ok : D.Ok) (c : SaysM D K) {x : PySem.Str} (hx : x ∈ bnames) : PySem.W.nsIn K mainGlobals x = some none := by
  unfold SaysM obsM valM at c
  simp only [Prod.mk.injEq] at c
  obtain ⟨c1, c2, c3⟩ := c
  have nf := ok.free x hx
  have keys : ∀ e ∈ ents fun a => K.lookup a, ∃ s, keyS e.key = some s ∧ s ≠ x := by
    intro e he
    rw [← List.takeWhile_append_dropWhile (p := D.ahead) (l := ents fun a => K.lookup a)] at he
    rcases List.mem_append.mp he with he | he
    · have k := List.all_eq_true.mp c1 e he
      unfold HD.preOk at k
      split at k
      · rename_i s e1
        rw [Bool.and_eq_true, Bool.not_eq_true', Bool.not_eq_true'] at k
        exact ⟨s, e1, fun z => List.any_eq_false.mp k.2 x hx (decide_eq_true z.symm)⟩
      · cases k
    · have m : keyS e.key ∈ (D.wn.map fun w => some w.1) := by rw [← c2]; exact List.mem_map.mpr ⟨e, he, rfl⟩
      obtain ⟨w, hw, e1⟩ := List.mem_map.mp m
      exact ⟨w.1, e1.symm, fun z => nf (by rw [← z]; exact List.mem_map.mpr ⟨w, hw, rfl⟩)⟩
  have f : (ents fun a => K.lookup a).find? (·.key.isStr x) = none := by
    rw [List.find?_eq_none]
    intro e he q
    obtain ⟨s, e1, ne⟩ := keys e he
    unfold keyS at e1
    split at e1
    · rename_i s' t e2
      injection e1 with e1
      subst e1
      rw [e2] at q
      exact ne (by simpa [Value.isStr] using q)
    · cases e1
  have r : (ents fun a => K.lookup a).any (·.refKey) = false := by
    rw [List.any_eq_false]
    intro e he q
    obtain ⟨s, e1, _⟩ := keys e he
    unfold DictEntry.refKey at q
    unfold keyS at e1
    split at e1
    · rename_i e2
      rw [e2] at q; cases q
    · cases e1
  have hn : ents (fun a => K.lookup a) ≠ [] := fun z => by
    rw [z] at c2
    simp at c2
    exact ok.ne c2
  unfold PySem.W.nsIn
  unfold ents at f r hn
  split at hn
  · rename_i q
    rw [q] at f r
    have q' := q
    simp only [] at q'
    rw [q']
    simp only [] at f r
    simp only [f, r]
    rfl
  · exact absurd rfl hn
theorem fn_said {g : Get} {u : Value} {r : DR} (e : fnAt g u = (Wn.fn r).val.2) : ∃ a oc od fd osl, u = .ref a ∧ g a = some ⟨oc, od, .func fd, osl⟩ ∧ fd.name = r.x ∧ fd.qualname = r.x ∧ fd.params = r.args ∧ fd.body = .stmts r.body ∧ fd.scope = r.scope ∧ fd.globals = mainGlobals ∧ fd.closure = [] ∧ fd.builtins = builtinsNs ∧ fd.defaults = .none ∧ codeNm g fd.code = some r.x := by
  cases u with
  | ref a =>
    unfold fnAt at e
    simp only [] at e
    split at e
    · rename_i oc od fd osl q
      simp only [Wn.val, Option.some.injEq, Prod.mk.injEq] at e
      exact ⟨a, oc, od, fd, osl, rfl, q, e⟩
    · cases e
  | _ => cases e
theorem code_said {v : Value} {x : PySem.Str} (e : codeNm (fun a => K.lookup a) v = some x) : PySem.W.codeIn K v x = true := by
  cases v with
  | ref c =>
    unfold codeNm at e
    unfold PySem.W.codeIn
    simp only [] at e ⊢
    split at e
    · rename_i q
      rw [q]
      simp only []
      split at e
      · rename_i q2
        rw [q2]
        injection e with e
        subst e
        simp
      · cases e
    · cases e
  | _ => cases e
theorem row_at (ok : D.Ok) (c : SaysM D K) {i : Nat} {r : DR} (e : D.rows[i]? = some r) : ∃ fd, FunD K r.x r.x r.args r.body r.scope [] [] (He.ga K r.gx) fd ∧ PySem.W.nsIn K mainGlobals r.gx = some (some (.ref (He.ga K r.gx))) := by
  obtain ⟨u, hu, o⟩ := said_at ok c (ok.rin i r e)
  have o2 : fnAt (fun a => K.lookup a) u = (Wn.fn r).val.2 := congrArg (·.2) o
  obtain ⟨a, oc, od, fd, osl, rfl, q, h1, h2, h3, h4, h5, h6, h7, h8, h9, h10⟩ := fn_said o2
  have ea : He.ga K r.gx = a := by unfold He.ga; rw [hu]
  rw [ea]
  obtain ⟨n1, n2, n3, n4, n5, n6, n7, n8, n9, n10, n11, n12, n13, n14, n15⟩ := fd
  simp only at h1 h2 h3 h4 h5 h6 h7 h8 h9 h10
  subst h1 h3 h4 h5 h6 h7 h8 h9
  rw [h2] at q
  refine ⟨_, ⟨⟨oc, od, .none, n9, n10, n11, n12, n13, n14, osl, rfl, q, code_said h10, .inl ⟨rfl, rfl⟩, .inl rfl⟩, ?_⟩, hu⟩
  unfold PySem.W.keepIn
  simp only [q]
theorem row_def (ok : D.Ok) (c : SaysM D K) {i : Nat} {r : DR} (e : D.rows[i]? = some r) : ∃ fd, FunD K r.x r.x r.args r.body r.scope [] [] (He.ga K r.gx) fd := (row_at ok c e).imp fun _ h => h.1
theorem row_mg (X : K.In h) (G : h.Ns mainGlobals mg) (ok : D.Ok) (c : SaysM D K) {i : Nat} {r : DR} (e : D.rows[i]? = some r) : mg r.gx = some (.ref (He.ga K r.gx)) := by
  obtain ⟨_, _, q⟩ := row_at ok c e
  exact PySem.W.mg_of X G q
theorem blt_mgs (X : K.In h) (G : h.Ns mainGlobals mg) (ok : D.Ok) (c : SaysM D K) {x : PySem.Str} (hx : x ∈ bnames) : mg x = none := PySem.W.mg_none_of X G (said_free ok c hx)
theorem gl_mg (X : K.In h) (G : h.Ns mainGlobals mg) (ok : D.Ok) (c : SaysM D K) {p : PySem.Str × Val} (hp : p ∈ D.gl) : ∃ u z, mg p.1 = some u ∧ RelV z u ∧ ∀ H M ρ, Rep ⟨K, D.ck⟩ (off H M) ρ z p.2 := by
  obtain ⟨u, hu, o⟩ := said_at ok c (ok.gin p hp)
  have o2 : vB (fun a => K.lookup a) D.ck p.2 u = true := congrArg (·.1) o
  obtain ⟨z, r, k⟩ := vB_ok p.2 o2
  exact ⟨u, z, PySem.W.mg_of X G hu, r, k⟩
theorem blt_said {s : String} {x : PySem.Str} (X : K.In h) (G : h.Ns mainGlobals mg) (ok : D.Ok) (c : SaysM D K) (hm : (x, Wn.blt s) ∈ D.wn) : mg x = some (.builtin s) := by
  obtain ⟨u, hu, o⟩ := said_at ok c hm
  cases u with
  | builtin t =>
    have o2 : decide (t = s) = true := congrArg (·.1) o
    have : t = s := of_decide_eq_true o2
    rw [this] at hu
    exact PySem.W.mg_of X G hu
  | _ =>
    have o2 : false = true := congrArg (·.1) o
    cases o2
theorem math_mg (X : K.In h) (G : h.Ns mainGlobals mg) (ok : D.Ok) (c : SaysM D K) (hm : D.math = true) : mg "gcd" = some (.builtin "math.gcd") ∧ mg "isqrt" = some (.builtin "math.isqrt") :=
  ⟨blt_said X G ok c (ok.min hm).1, blt_said X G ok c (ok.min hm).2⟩
theorem rows_ok (X : K.In h) (G : h.Ns mainGlobals mg) (ok : D.Ok) (c : SaysM D K) : ∀ (n i : Nat) (r : DR) (fd : FuncData), i < n → D.rows[i]? = some r → FunD K r.x r.x r.args r.body r.scope [] [] (He.ga K r.gx) fd →
    FnG P w K mg base (L2.CX P w) (i + 1) (He.ga K r.gx) fd r.ps (spF ⟨K, D.ck⟩ (runD D.ck (tab D.ck (D.rows.map DR.def_) i) r.def_) r.ps.length) := by
  intro n
  induction n with
  | zero => intro i r fd hi; omega
  | succ n ih =>
    intro i r fd hi e F
    have hl := (List.getElem?_eq_some_iff.mp e).1
    have hf := ok.few
    refine fn_ok (ok.chk i r e) F (fun X' eP ew eK emg eb hr => ⟨fun j x m ej hj => ?_, hr.told, fun p hp => ?_, fun x hx => ?_, fun hm => ?_⟩) (by omega)
    · subst eP ew eK emg eb
      unfold gi at ej
      rw [List.getElem?_map] at ej
      obtain ⟨r', e', ee⟩ := Option.map_eq_some_iff.mp ej
      injection ee with e1 e2
      subst e1 e2
      obtain ⟨fd', F'⟩ := row_def ok c e'
      have ds : (D.rows.map DR.def_)[j]? = some r'.def_ := by rw [List.getElem?_map, e']; rfl
      refine ⟨He.ga X'.K r'.gx, fd', r'.ps, ?_, row_mg X G ok c e', F'.kp, FunD.bindsN F' (ok.bnd j r' e')⟩
      rw [tab_def hj ds]
      exact ih j r' fd' (by omega) e' F' _ (hr.mono (by omega))
    · subst eK emg
      exact gl_mg X G ok c hp
    · subst emg
      exact blt_mgs X G ok c hx
    · subst emg
      exact math_mg X G ok c hm
theorem rin_of {rows : List DR} {wn : List (PySem.Str × Wn)} {p : List Nat} (h : rows.map (fun r => some (r.gx, Wn.fn r)) = p.map fun j => wn[j]?) (i : Nat) (r : DR) (e : rows[i]? = some r) : (r.gx, Wn.fn r) ∈ wn := by
  have q := congrArg (·[i]?) h
  simp only [List.getElem?_map, e, Option.map_some] at q
  cases hp : p[i]? with
  | none => rw [hp] at q; cases q
  | some j =>
    rw [hp] at q
    exact List.mem_of_getElem? (Option.some.inj q).symm
theorem gin_of {gl : List (PySem.Str × Val)} {wn : List (PySem.Str × Wn)} {p : List Nat} (h : gl.map (fun r => some (r.1, Wn.con r.2)) = p.map fun j => wn[j]?) (x : PySem.Str × Val) (e : x ∈ gl) : (x.1, Wn.con x.2) ∈ wn := by
  obtain ⟨i, hi⟩ := List.getElem?_of_mem e
  have q := congrArg (·[i]?) h
  simp only [List.getElem?_map, hi, Option.map_some] at q
  cases hp : p[i]? with
  | none => rw [hp] at q; cases q
  | some j =>
    rw [hp] at q
    exact List.mem_of_getElem? (Option.some.inj q).symm
theorem free_of {wn : List (PySem.Str × Wn)} (h : (bnames.all fun x => !(wn.map (·.1)).contains x) = true) : ∀ x ∈ bnames, x ∉ wn.map (·.1) := fun x hx hm => by
  have q := List.all_eq_true.mp h x hx
  rw [Bool.not_eq_true'] at q
  have := List.contains_iff_mem.mpr hm
  rw [q] at this; cases this
end
end MP
set_option maxHeartbeats 4000000
set_option autoImplicit false
namespace MP
open PySem PySem.Spec PyProof.Rows L2
theorem off_nil (H : Hp) : off H [] = H := funext fun a => by unfold off; simp
theorem ints_rep {K : KC} {H : Hp} {ρ : List Addr} : ∀ ns : List Int, RepL K H ρ (ns.map V.int) (ns.map Val.int)
  | [] => .nil
  | n :: ns => .cons (.int n) (ints_rep ns)
theorem sp_law {K : PySem.W.Frag} {ck : List (List Ky)} {F : Fn} {H : Hp} {a : Addr} {ns : List Int} (hF : ∃ h', F [.lst (ns.map Val.int)] [] = .ok (.bl true) h') (hS : SqL K H a (ns.map V.int)) : spF ⟨K, ck⟩ F 1 [.ref a] H (fun v _ => v = .bl true) (fun _ _ _ => False) := by
  obtain ⟨h', e⟩ := hF
  refine ⟨[], [], [.lst (ns.map Val.int)], [], rfl, .cons (.lst ?_ (ints_rep ns)) .nil, fun b hb => by simp at hb, ⟨rfl, List.nodup_nil, fun k o b e1 => by simp at e1⟩, ?_⟩
  · show SqL K (off H []) a _
    rw [off_nil]; exact hS
  · rw [e]
    intro z ρ' H' _ _ r
    cases r; rfl
section
variable {D : HD} {P : Program} {w : World} {K : PySem.W.Frag} {mg : PySem.Str → Option Value} {h : Heap}
theorem law_parts (ok : D.Ok) {n : Nat} {r : DR} (e : D.rows[n]? = some r) (hx : r.gx = "law") (hps : r.ps = [("script" : PySem.Str)]) (main : ∀ ns : List Int, ns.length ≤ 63 → ∃ h', tab D.ck (D.rows.map DR.def_) (n + 1) n [.lst (ns.map Val.int)] [] = .ok (.bl true) h')
    (X : K.In h) (G : h.Ns mainGlobals mg) (c : SaysM D K) {fa : Addr} (hfa : mg "law" = some (.ref fa)) :
    ∃ (fd : FuncData) (sp : Sp), (∀ (s : Shared) (u : Value), BindsTo s fd ⟨[u], []⟩ [("script", u)]) ∧ (∀ (H : Hp) (a : Addr) (ns : List Int), ns.length ≤ 63 → Only H → SqL K H a (ns.map V.int) → sp [.ref a] H (fun v _ => v = .bl true) fun _ _ _ => False) ∧
      ∀ base : Heap, K.In base → base.Ns mainGlobals mg → FnG P w K mg base (L2.CX P w) (n + 1) fa fd ["script"] sp := by
  obtain ⟨fd, F⟩ := row_def ok c e
  have m := row_mg X G ok c e
  rw [hx, hfa] at m
  injection m with m
  injection m with m
  refine ⟨fd, spF ⟨K, D.ck⟩ (tab D.ck (D.rows.map DR.def_) (n + 1) n) 1, fun s u => ?_, fun H a ns hl _ hS => sp_law (main ns hl) hS, fun base X' G' => ?_⟩
  · have b := FunD.bindsA F (ok.bnd n r e) s [u] (by rw [hps]; rfl)
    rw [hps] at b
    exact b
  · have q := rows_ok (P := P) (w := w) (base := base) X' G' ok c (n + 1) n r fd (Nat.lt_succ_self n) e F
    have ds : (D.rows.map DR.def_)[n]? = some r.def_ := by rw [List.getElem?_map, e]; rfl
    rw [tab_def (Nat.lt_succ_self n) ds, m]
    rw [hps, hx] at q
    exact q
end
theorem walk_ofM {l : PySem.W.OpenLaw} {n k : Nat} {q : Program} {loose : List PySem.Str} {XP : (PySem.Str → Option Value) → Heap → Prop} {YP : World → Heap → Prop} {d : DefRec} {CX : World → CXT} {x : PySem.Str}
    (hn : l.most = some n) (hn2 : n ≤ sizeLine) (hdf : d.params.defaults = []) (hr : Room k callerA)
    (F : ∀ (w : World) (mg : PySem.Str → Option Value) (fa : Addr) (h : Heap), YP w h → h.Ns mainGlobals mg → mg d.name = some (.ref fa) →
      ∃ (K : PySem.W.Frag) (fd : FuncData) (sp : Sp), K.In h ∧ (∀ (s : Shared) (u : Value), BindsTo s fd ⟨[u], []⟩ [(x, u)]) ∧
        (∀ (H : Hp) (a : Addr) (ns : List Int), ns.length ≤ n → Only H → SqL K H a (ns.map V.int) → sp [.ref a] H (fun v _ => v = .bl true) fun _ _ _ => False) ∧
        ∀ base : Heap, K.In base → base.Ns mainGlobals mg → FnG l.prog w K mg base (CX w) k fa fd [x] sp)
    (hCX : ∀ (w : World) (H : Hp) (s : Shared) (e : Value) (s' : Shared), CX w [] H s (fun _ _ _ => False) e s' → False) :
    PySem.W.WalkO q loose XP YP l.row.toRowW d [] (fun f vs => PySem.call f vs) := by
  refine Att.attach_call hn hdf fun w s₀ s₁ mg mb fa o pm cd doc a vs ns G Y ho hd hcd hmg hobj hints hlen hg => ?_
  obtain ⟨K, fd, sp, KX, hb, hsp, hF⟩ := F w mg fa _ Y G.T.g hmg
  exact law_ends KX G.T.g G.T.b G.T.builtins G.T.nolimit hg hobj hints (Nat.le_trans hlen hn2) (fun base h1 h2 => hF base h1 h2 _ ⟨hr, rfl⟩) hb (fun H hO hS => hsp H a ns hlen hO hS) fun H e s' => hCX w H s₁ e s'
theorem cx_no {P : Program} (w : World) (H : Hp) (s : Shared) (e : Value) (s' : Shared) (h : L2.CX P w [] H s (fun _ _ _ => False) e s') : False := by
  obtain ⟨_, _, _, _, _, _, _, _, _, _, _, _, h⟩ := h
  exact h
theorem chk_of {rows : List DR} {gl : List (PySem.Str × Val)} {math : Bool} (h : (rows.zipIdx.all fun x => okB rows gl math x.2 x.1) = true) : ∀ (i : Nat) (r : DR), rows[i]? = some r → okB rows gl math i r = true := fun i r e =>
  List.all_eq_true.mp h (r, i) (List.mem_zipIdx_iff_getElem?.mpr e)
inductive AllB : List DR → Prop
  | nil : AllB []
  | cons {r : DR} {rs : List DR} (h : BindP r) (t : AllB rs) : AllB (r :: rs)
theorem bnd_of : ∀ {rows : List DR}, AllB rows → ∀ (i : Nat) (r : DR), rows[i]? = some r → BindP r
  | _, .nil, i, r, e => by simp at e
  | _, .cons h _, 0, r, e => by simp at e; subst e; exact h
  | _, .cons _ t, i + 1, r, e => bnd_of t i r (by simpa using e)
end MP
set_option autoImplicit true
set_option maxHeartbeats 4000000
namespace LawP
open MP PySem L2
def topS (i : Nat) : PySem.Stmt := PySem.Challenge.pw_wheelandbell_k36_whole_roads_read_from_b.main.body.getD i (.Pass ⟨0, 0, 0, 0⟩)
def l1_fraction_at : S := (.seq
 (.asg 4 (.e (.tup (.cons (.bin .add (.sub (.var 2) (.con (.int 0))) (.sub (.var 3) (.con (.int 0)))) (.cons (.bin .add (.sub (.var 2) (.con (.int 1))) (.sub (.var 3) (.con (.int 1)))) .nil))))) (.seq
 (.kill [1, 4] (.unp [2, 3] (.ife (.cmp .eq (.var 1) (.glob (.str [76]))) (.tup (.cons (.var 2) (.cons (.var 4) .nil))) (.tup (.cons (.var 4) (.cons (.var 3) .nil)))))) .skip))
def d_fraction_at : S := (.seq
 (.par [2, 3] [(.e (.tup (.cons (.con (.int 0)) (.cons (.con (.int 1)) .nil)))), (.e (.tup (.cons (.con (.int 1)) (.cons (.con (.int 0)) .nil))))]) (.seq
 (.kill [0, 1, 4] (.for_ (.name 1) (.seq (.var 0)) l1_fraction_at)) (.seq
 (.ret (.tup (.cons (.bin .add (.sub (.var 2) (.con (.int 0))) (.sub (.var 3) (.con (.int 0)))) (.cons (.bin .add (.sub (.var 2) (.con (.int 1))) (.sub (.var 3) (.con (.int 1)))) .nil)))) .skip)))
def d_by_road : S := (.seq
 (.ife (.bor (.bnot (.isinst (.var 0) .str)) (.bor (.cmp .gt (.blt .len (.cons (.var 0) .nil)) (.glob (.int 2000))) (.bnot (.blt .all (.cons (.lc [1] (.name 1) (.seq (.var 0)) .no (.cmp .isin (.var 1) (.tup (.cons (.glob (.str [76])) (.cons (.glob (.str [82])) .nil))))) .nil))))) (.seq
  .never .skip) .skip) (.seq
 (.ret (.call 0 (.cons (.var 0) .nil))) .skip))
def l1__law_divisor : S := (.seq
 (.ife (.cmp .eq (.var 1) (.con (.int 0))) (.seq
  .brk .skip) .skip) (.seq
 (.kill [2] (.par [0, 1] [(.e (.var 1)), (.e (.bin .mod (.blt .toint (.cons (.var 0) .nil)) (.var 1)))])) .skip))
def d__law_divisor : S := (.seq
 (.kill [1, 2] (.for_ (.name 2) (.rng1 (.con (.int 4000))) l1__law_divisor)) (.seq
 (.ret (.var 0)) .skip))
def d__law_fraction : S := (.seq
 (.asg 2 (.e (.call 2 (.cons (.var 0) (.cons (.var 1) .nil))))) (.seq
 (.ret (.tup (.cons (.bin .fdiv (.var 0) (.var 2)) (.cons (.bin .fdiv (.var 1) (.var 2)) .nil)))) .skip))
def d_is_integer : S := (.seq
 (.ret (.band (.isinst (.var 0) .int) (.bnot (.isinst (.var 0) .bool)))) .skip)
def d_is_fraction : S := (.seq
 (.ife (.bor (.bnot (.isinst (.var 0) .tuple)) (.bor (.cmp .ne (.blt .len (.cons (.var 0) .nil)) (.con (.int 2))) (.bnot (.blt .all (.cons (.lc [1] (.name 1) (.seq (.var 0)) .no (.call 4 (.cons (.var 1) .nil))) .nil))))) (.seq
  (.ret (.con (.bl false))) .skip) .skip) (.seq
 (.ret (.band (.cmp .ge (.sub (.var 0) (.con (.int 1))) (.con (.int 1))) (.cmp .eq (.blt .gcd (.cons (.sub (.var 0) (.con (.int 0))) (.cons (.sub (.var 0) (.con (.int 1))) .nil))) (.con (.int 1))))) .skip))
def d_check_fraction : S := (.seq
 (.kill [0] (.ife (.bnot (.call 5 (.cons (.var 0) .nil))) (.seq
  .never .skip) .skip)) .skip)
def d_check_above : S := (.seq
 (.expr (.call 6 (.cons (.var 0) .nil))) (.seq
 (.kill [0] (.ife (.cmp .lt (.sub (.var 0) (.con (.int 0))) (.con (.int 1))) (.seq
  .never .skip) .skip)) .skip))
def c1_road_of : E := (.cmp .ne (.tup (.cons (.var 1) (.cons (.var 2) .nil))) (.tup (.cons (.con (.int 1)) (.cons (.con (.int 1)) .nil))))
def l1_road_of : S := (.seq
 (.ife (.cmp .gt (.var 1) (.var 2)) (.seq
  (.asg 5 (.e (.bin .fdiv (.bin .sub (.var 1) (.con (.int 1))) (.var 2)))) (.seq
  (.app 3 (.tup (.cons (.glob (.str [82])) (.cons (.var 5) .nil)))) (.seq
  (.asg 1 (.e (.bin .sub (.var 1) (.bin .mul (.var 5) (.var 2))))) .skip))) (.seq
  (.asg 5 (.e (.bin .fdiv (.bin .sub (.var 2) (.con (.int 1))) (.var 1)))) (.seq
  (.app 3 (.tup (.cons (.glob (.str [76])) (.cons (.var 5) .nil)))) (.seq
  (.asg 2 (.e (.bin .sub (.var 2) (.bin .mul (.var 5) (.var 1))))) .skip)))) (.seq
 (.kill [5] (.asg 4 (.e (.bin .add (.var 4) (.var 5))))) (.seq
 (.ife (.cmp .gt (.var 4) (.glob (.int 2000))) (.seq
  .never .skip) .skip) .skip)))
def d_road_of : S := (.seq
 (.kill [0] (.unp [1, 2] (.var 0))) (.seq
 (.par [3, 4] [(.lst .nil), (.e (.con (.int 0)))]) (.seq
 (.kill [1, 2, 4, 5] (.whl c1_road_of l1_road_of)) (.seq
 (.ret (.meth .join (.con (.str [])) (.cons (.lc [6, 5] (.tup [6, 5]) (.seq (.var 3)) .no (.bin .mul (.var 6) (.var 5))) .nil))) .skip))))
def c1_meet : E := (.band (.cmp .lt (.var 4) (.blt .min2 (.cons (.blt .len (.cons (.var 2) .nil)) (.cons (.blt .len (.cons (.var 3) .nil)) .nil)))) (.cmp .eq (.sub (.var 2) (.var 4)) (.sub (.var 3) (.var 4))))
def l1_meet : S := (.seq
 (.asg 4 (.e (.bin .add (.var 4) (.con (.int 1))))) .skip)
def d_meet : S := (.seq
 (.expr (.call 6 (.cons (.var 0) .nil))) (.seq
 (.expr (.call 6 (.cons (.var 1) .nil))) (.seq
 (.expr (.call 7 (.cons (.var 0) .nil))) (.seq
 (.expr (.call 7 (.cons (.var 1) .nil))) (.seq
 (.kill [0, 1] (.par [2, 3, 4] [(.e (.call 8 (.cons (.var 0) .nil))), (.e (.call 8 (.cons (.var 1) .nil))), (.e (.con (.int 0)))])) (.seq
 (.kill [3] (.whl c1_meet l1_meet)) (.seq
 (.ret (.call 0 (.cons (.sliceE (.var 2) .no (.yes (.var 4))) .nil))) .skip)))))))
def l1__law_turn : S := (.seq
 (.kill [1] (.unp [2, 3, 4, 5] (.ife (.cmp .eq (.var 1) (.con (.str [82]))) (.tup (.cons (.var 2) (.cons (.bin .add (.var 2) (.var 3)) (.cons (.var 4) (.cons (.bin .add (.var 4) (.var 5)) .nil))))) (.tup (.cons (.bin .add (.var 2) (.var 3)) (.cons (.var 3) (.cons (.bin .add (.var 4) (.var 5)) (.cons (.var 5) .nil)))))))) .skip)
def d__law_turn : S := (.seq
 (.par [2, 3, 4, 5] [(.e (.con (.int 1))), (.e (.con (.int 0))), (.e (.con (.int 0))), (.e (.con (.int 1)))]) (.seq
 (.kill [0, 1] (.for_ (.name 1) (.seq (.var 0)) l1__law_turn)) (.seq
 (.ret (.tup (.cons (.var 2) (.cons (.var 3) (.cons (.var 4) (.cons (.var 5) .nil)))))) .skip)))
def d__law_end : S := (.seq
 (.kill [0] (.unp [1, 2, 3, 4] (.call 10 (.cons (.var 0) .nil)))) (.seq
 (.ret (.tup (.cons (.bin .add (.var 1) (.var 2)) (.cons (.bin .add (.var 3) (.var 4)) .nil)))) .skip))
def d_road : S := (.seq
 (.expr (.call 7 (.cons (.var 0) .nil))) (.seq
 (.ret (.call 8 (.cons (.var 0) .nil))) .skip))
def d__law_is_less : S := (.seq
 (.ret (.cmp .lt (.bin .mul (.sub (.var 0) (.con (.int 0))) (.sub (.var 1) (.con (.int 1)))) (.bin .mul (.sub (.var 1) (.con (.int 0))) (.sub (.var 0) (.con (.int 1)))))) .skip)
def l1__law_are_all_right : S := (.seq
 (.asg 12 (.e (.call 9 (.cons (.var 4) (.cons (.var 10) .nil))))) (.seq
 (.kill [6, 11] (.asg 13 (.e (.sub (.lc [14] (.name 14) (.rng1 (.blt .len (.cons (.var 6) .nil))) (.yes (.cmp .eq (.sliceE (.var 6) .no (.yes (.var 14))) (.sliceE (.var 11) .no (.yes (.var 14))))) (.sliceE (.var 6) .no (.yes (.var 14)))) (.neg (.con (.int 1))))))) (.seq
 (.kill [4, 6, 10, 11, 12, 13] (.ife (.bor (.cmp .ne (.var 12) (.call 11 (.cons (.var 13) .nil))) (.bor (.bnot (.call 13 (.cons (.var 4) (.cons (.var 12) .nil)))) (.bnot (.call 13 (.cons (.var 12) (.cons (.var 10) .nil)))))) (.seq
  (.ret (.con (.bl false))) .skip) .skip)) .skip)))
def l2__law_are_all_right : S := (.seq
 (.kill [4] (.asg 9 (.e (.bin .mul (.sub (.var 4) (.con (.int 0))) (.sub (.var 4) (.con (.int 1))))))) (.seq
 (.kill [4, 9] (.unp [7, 8] (.call 3 (.cons (.bin .add (.bin .mul (.var 7) (.var 9)) (.var 8)) (.cons (.bin .mul (.var 8) (.var 9)) .nil))))) .skip))
def l3__law_are_all_right : S := (.seq
 (.kill [6] (.ext 5 (.lst (.cons (.bin .add (.var 6) (.con (.str [76]))) (.cons (.bin .add (.var 6) (.con (.str [82]))) .nil))))) .skip)
def l4__law_are_all_right : S := (.seq
 (.asg 5 (.lst .nil)) (.seq
 (.kill [1, 6] (.for_ (.name 6) (.seq (.var 1)) l3__law_are_all_right)) (.seq
 (.kill [2, 5] (.frz [5] (.asg 1 (.e (.var 5))))) .skip)))
def d__law_are_all_right : S := (.seq
 (.asg 1 (.e (.lst (.cons (.con (.str [])) .nil)))) (.seq
 (.kill [0, 2, 5, 6] (.for_ (.name 2) (.rng1 (.var 0)) l4__law_are_all_right)) (.seq
 (.kill [6] (.asg 3 (.e (.lc [6] (.name 6) (.seq (.var 1)) .no (.call 1 (.cons (.var 6) .nil)))))) (.seq
 (.kill [4, 6, 10] (.ife (.bor (.cmp .ne (.var 3) (.lc [6] (.name 6) (.seq (.var 1)) .no (.call 11 (.cons (.var 6) .nil)))) (.bnot (.blt .all (.cons (.lc [4, 10] (.tup [4, 10]) (.zip2 (.var 3) (.sliceE (.var 3) (.yes (.con (.int 1))) .no)) .no (.call 13 (.cons (.var 4) (.cons (.var 10) .nil)))) .nil)))) (.seq
  (.ret (.con (.bl false))) .skip) .skip)) (.seq
 (.par [7, 8] [(.e (.con (.int 0))), (.e (.con (.int 1)))]) (.seq
 (.kill [4, 9] (.for_ (.name 4) (.seq (.var 3)) l2__law_are_all_right)) (.seq
 (.kill [4, 7, 8] (.ife (.bor (.cmp .ne (.tup (.cons (.var 7) (.cons (.var 8) .nil))) (.tup (.cons (.con (.int 1)) (.cons (.con (.int 1)) .nil)))) (.cmp .ne (.lc [4] (.name 4) (.seq (.var 3)) .no (.call 12 (.cons (.var 4) .nil))) (.var 1))) (.seq
  (.ret (.con (.bl false))) .skip) .skip)) (.seq
 (.kill [1, 3, 4, 6, 10, 11, 12, 13] (.for_ (.tup [4, 10, 6, 11]) (.zip4 (.var 3) (.sliceE (.var 3) (.yes (.con (.int 1))) .no) (.var 1) (.sliceE (.var 1) (.yes (.con (.int 1))) .no)) l1__law_are_all_right)) (.seq
 (.ret (.con (.bl true))) .skip)))))))))
def d__law_swapped : S := (.seq
 (.ret (.meth .join (.con (.str [])) (.cons (.lc [1] (.name 1) (.seq (.var 0)) .no (.ife (.cmp .eq (.var 1) (.con (.str [82]))) (.con (.str [76])) (.con (.str [82])))) .nil))) .skip)
def d__law_is_back_right : S := (.seq
 (.par [2, 3, 4] [(.e (.call 1 (.cons (.var 0) .nil))), (.e (.call 1 (.cons (.rev (.var 0)) .nil))), (.e (.call 1 (.cons (.call 15 (.cons (.rev (.var 0)) .nil)) .nil)))]) (.seq
 (.asg 1 (.e (.bin .add (.sub (.var 2) (.con (.int 0))) (.sub (.var 2) (.con (.int 1)))))) (.seq
 (.kill [0] (.ife (.bor (.cmp .ne (.tup (.cons (.var 2) (.cons (.var 3) (.cons (.var 4) .nil)))) (.tup (.cons (.call 11 (.cons (.var 0) .nil)) (.cons (.call 11 (.cons (.rev (.var 0)) .nil)) (.cons (.tup (.cons (.sub (.var 3) (.con (.int 1))) (.cons (.sub (.var 3) (.con (.int 0))) .nil))) .nil))))) (.cmp .ne (.bin .add (.sub (.var 3) (.con (.int 0))) (.sub (.var 3) (.con (.int 1)))) (.var 1))) (.seq
  (.ret (.con (.bl false))) .skip) .skip)) (.seq
 (.ret (.band (.cmp .eq (.bin .mod (.blt .toint (.cons (.bin .add (.bin .mul (.sub (.var 2) (.con (.int 0))) (.sub (.var 4) (.con (.int 0)))) (.con (.int 1))) .nil)) (.var 1)) (.con (.int 0))) (.cmp .eq (.bin .mod (.blt .toint (.cons (.bin .sub (.bin .mul (.sub (.var 2) (.con (.int 0))) (.sub (.var 3) (.con (.int 0)))) (.con (.int 1))) .nil)) (.var 1)) (.con (.int 0))))) .skip))))
def d_is_between : S := (.seq
 (.ret (.band (.call 4 (.cons (.var 0) .nil)) (.chain .le .le (.var 1) (.var 0) (.var 2)))) .skip)
def d_is_squarefree : S := (.seq
 (.ret (.blt .all (.cons (.lc [1] (.name 1) (.rng2 (.con (.int 2)) (.bin .add (.blt .isqrt (.cons (.var 0) .nil)) (.con (.int 1)))) .no (.cmp .ne (.bin .mod (.var 0) (.bin .mul (.var 1) (.var 1))) (.con (.int 0)))) .nil))) .skip)
def d_is_number : S := (.seq
 (.ife (.bor (.bnot (.isinst (.var 0) .tuple)) (.bor (.cmp .ne (.blt .len (.cons (.var 0) .nil)) (.glob (.int 4))) (.bnot (.blt .all (.cons (.lc [5] (.name 5) (.seq (.var 0)) .no (.call 4 (.cons (.var 5) .nil))) .nil))))) (.seq
  (.ret (.con (.bl false))) .skip) .skip) (.seq
 (.kill [0] (.unp [1, 2, 3, 4] (.var 0))) (.seq
 (.kill [1, 3] (.ife (.bor (.cmp .lt (.var 3) (.con (.int 1))) (.cmp .ne (.blt .gcd (.cons (.blt .gcd (.cons (.var 1) (.cons (.var 2) .nil))) (.cons (.var 3) .nil))) (.con (.int 1)))) (.seq
  (.ret (.con (.bl false))) .skip) .skip)) (.seq
 (.kill [2] (.ife (.bor (.cmp .eq (.var 2) (.con (.int 0))) (.cmp .eq (.var 4) (.con (.int 0)))) (.seq
  (.ret (.band (.cmp .eq (.var 2) (.con (.int 0))) (.cmp .eq (.var 4) (.con (.int 0))))) .skip) .skip)) (.seq
 (.ret (.band (.call 17 (.cons (.var 4) (.cons (.con (.int 2)) (.cons (.glob (.int 1000)) .nil)))) (.call 18 (.cons (.var 4) .nil)))) .skip)))))
def d_check_number : S := (.seq
 (.kill [0] (.ife (.bnot (.call 19 (.cons (.var 0) .nil))) (.seq
  .never .skip) .skip)) .skip)
def d_as_fraction : S := (.seq
 (.expr (.call 20 (.cons (.var 0) .nil))) (.seq
 (.ife (.cmp .ne (.sub (.var 0) (.con (.int 1))) (.con (.int 0))) (.seq
  .never .skip) .skip) (.seq
 (.ret (.tup (.cons (.sub (.var 0) (.con (.int 0))) (.cons (.sub (.var 0) (.con (.int 2))) .nil)))) .skip)))
def d_is_turn : S := (.seq
 (.ife (.bor (.bnot (.isinst (.var 0) .tuple)) (.bor (.cmp .ne (.blt .len (.cons (.var 0) .nil)) (.glob (.int 4))) (.bnot (.blt .all (.cons (.lc [1] (.name 1) (.seq (.var 0)) .no (.call 4 (.cons (.var 1) .nil))) .nil))))) (.seq
  (.ret (.con (.bl false))) .skip) .skip) (.seq
 (.ret (.cmp .ne (.bin .mul (.sub (.var 0) (.con (.int 0))) (.sub (.var 0) (.con (.int 3)))) (.bin .mul (.sub (.var 0) (.con (.int 1))) (.sub (.var 0) (.con (.int 2)))))) .skip))
def d_check_turn : S := (.seq
 (.kill [0] (.ife (.bnot (.call 22 (.cons (.var 0) .nil))) (.seq
  .never .skip) .skip)) .skip)
def d_least_turn : S := (.seq
 (.kill [0] (.unp [3, 4, 5, 6] (.var 0))) (.seq
 (.asg 1 (.e (.blt .gcd (.cons (.blt .gcd (.cons (.var 3) (.cons (.var 4) .nil))) (.cons (.blt .gcd (.cons (.var 5) (.cons (.var 6) .nil))) .nil))))) (.seq
 (.asg 2 (.e (.sub (.lc [7] (.name 7) (.seq (.tup (.cons (.var 5) (.cons (.var 6) (.cons (.var 3) .nil))))) (.yes (.cmp .ne (.var 7) (.con (.int 0)))) (.var 7)) (.con (.int 0))))) (.seq
 (.kill [2] (.asg 1 (.e (.ife (.cmp .gt (.var 2) (.con (.int 0))) (.var 1) (.bin .sub (.con (.int 0)) (.var 1)))))) (.seq
 (.ret (.tup (.cons (.bin .fdiv (.var 3) (.var 1)) (.cons (.bin .fdiv (.var 4) (.var 1)) (.cons (.bin .fdiv (.var 5) (.var 1)) (.cons (.bin .fdiv (.var 6) (.var 1)) .nil)))))) .skip)))))
def d_after : S := (.seq
 (.expr (.call 23 (.cons (.var 0) .nil))) (.seq
 (.expr (.call 23 (.cons (.var 1) .nil))) (.seq
 (.kill [0] (.unp [2, 3, 4, 5] (.var 0))) (.seq
 (.kill [1] (.unp [6, 7, 8, 9] (.var 1))) (.seq
 (.ret (.call 24 (.cons (.tup (.cons (.bin .add (.bin .mul (.var 2) (.var 6)) (.bin .mul (.var 3) (.var 8))) (.cons (.bin .add (.bin .mul (.var 2) (.var 7)) (.bin .mul (.var 3) (.var 9))) (.cons (.bin .add (.bin .mul (.var 4) (.var 6)) (.bin .mul (.var 5) (.var 8))) (.cons (.bin .add (.bin .mul (.var 4) (.var 7)) (.bin .mul (.var 5) (.var 9))) .nil))))) .nil))) .skip)))))
def d_floor_of : S := (.seq
 (.kill [0] (.unp [3, 4, 5, 6] (.var 0))) (.seq
 (.kill [6] (.asg 1 (.e (.bin .mul (.bin .mul (.var 4) (.var 4)) (.var 6))))) (.seq
 (.kill [1, 4] (.asg 2 (.e (.ife (.cmp .ge (.var 4) (.con (.int 0))) (.blt .isqrt (.cons (.var 1) .nil)) (.bin .sub (.bin .sub (.con (.int 0)) (.blt .isqrt (.cons (.var 1) .nil))) (.con (.int 1))))))) (.seq
 (.ret (.bin .fdiv (.bin .add (.var 3) (.var 2)) (.var 5))) .skip))))
def d_least_form : S := (.seq
 (.ife (.cmp .eq (.var 3) (.con (.int 1))) (.seq
  (.par [0, 1] [(.e (.bin .add (.var 0) (.var 1))), (.e (.con (.int 0)))]) .skip) .skip) (.seq
 (.ife (.bor (.cmp .eq (.var 1) (.con (.int 0))) (.cmp .eq (.var 3) (.con (.int 0)))) (.seq
  (.par [1, 3] [(.e (.con (.int 0))), (.e (.con (.int 0)))]) .skip) .skip) (.seq
 (.asg 4 (.e (.blt .gcd (.cons (.blt .gcd (.cons (.var 0) (.cons (.var 1) .nil))) (.cons (.var 2) .nil))))) (.seq
 (.asg 4 (.e (.ife (.cmp .gt (.var 2) (.con (.int 0))) (.var 4) (.bin .sub (.con (.int 0)) (.var 4))))) (.seq
 (.ret (.tup (.cons (.bin .fdiv (.var 0) (.var 4)) (.cons (.bin .fdiv (.var 1) (.var 4)) (.cons (.bin .fdiv (.var 2) (.var 4)) (.cons (.var 3) .nil)))))) .skip)))))
def d_summed : S := (.seq
 (.kill [0] (.unp [2, 3, 4, 5] (.var 0))) (.seq
 (.kill [1] (.unp [6, 7, 8, 9] (.var 1))) (.seq
 (.ret (.call 27 (.cons (.bin .add (.bin .mul (.var 2) (.var 8)) (.bin .mul (.var 6) (.var 4))) (.cons (.bin .add (.bin .mul (.var 3) (.var 8)) (.bin .mul (.var 7) (.var 4))) (.cons (.bin .mul (.var 4) (.var 8)) (.cons (.blt .max2 (.cons (.var 5) (.cons (.var 9) .nil))) .nil)))))) .skip)))
def d_many_times : S := (.seq
 (.kill [0] (.unp [2, 3, 4, 5] (.var 0))) (.seq
 (.ret (.call 27 (.cons (.bin .mul (.var 2) (.var 1)) (.cons (.bin .mul (.var 3) (.var 1)) (.cons (.var 4) (.cons (.var 5) .nil)))))) .skip))
def d_above : S := (.seq
 (.ret (.call 28 (.cons (.call 29 (.cons (.var 0) (.cons (.sub (.var 1) (.con (.int 1))) .nil))) (.cons (.tup (.cons (.bin .sub (.con (.int 0)) (.sub (.var 1) (.con (.int 0)))) (.cons (.con (.int 0)) (.cons (.con (.int 1)) (.cons (.con (.int 0)) .nil))))) .nil)))) .skip)
def d_multiplied : S := (.seq
 (.kill [0] (.unp [3, 4, 5, 6] (.var 0))) (.seq
 (.kill [1] (.unp [7, 8, 9, 10] (.var 1))) (.seq
 (.kill [6, 10] (.asg 2 (.e (.blt .max2 (.cons (.var 6) (.cons (.var 10) .nil)))))) (.seq
 (.ret (.call 27 (.cons (.bin .add (.bin .mul (.var 3) (.var 7)) (.bin .mul (.bin .mul (.var 4) (.var 8)) (.var 2))) (.cons (.bin .add (.bin .mul (.var 3) (.var 8)) (.bin .mul (.var 4) (.var 7))) (.cons (.bin .mul (.var 5) (.var 9)) (.cons (.var 2) .nil)))))) .skip))))
def d_inverted : S := (.seq
 (.kill [0] (.unp [1, 2, 3, 4] (.var 0))) (.seq
 (.ret (.call 27 (.cons (.bin .mul (.var 1) (.var 3)) (.cons (.bin .sub (.con (.int 0)) (.bin .mul (.var 2) (.var 3))) (.cons (.bin .sub (.bin .mul (.var 1) (.var 1)) (.bin .mul (.bin .mul (.var 2) (.var 2)) (.var 4))) (.cons (.var 4) .nil)))))) .skip))
def d_how_often : S := (.seq
 (.ret (.call 26 (.cons (.call 31 (.cons (.var 1) (.cons (.call 32 (.cons (.var 0) .nil)) .nil))) .nil))) .skip)
def c1_runs : E := (.band (.var 3) (.cmp .le (.bin .add (.sub (.var 4) (.con (.int 1))) (.sub (.var 5) (.con (.int 1)))) (.var 1)))
def l1_runs : S := (.seq
 (.par [9, 10] [(.e (.call 30 (.cons (.var 0) (.cons (.var 4) .nil)))), (.e (.call 30 (.cons (.var 0) (.cons (.var 5) .nil))))]) (.seq
 (.kill [10] (.asg 7 (.e (.tup (.cons (.bin .sub (.con (.int 0)) (.sub (.var 10) (.con (.int 0)))) (.cons (.bin .sub (.con (.int 0)) (.sub (.var 10) (.con (.int 1)))) (.cons (.sub (.var 10) (.con (.int 2))) (.cons (.sub (.var 10) (.con (.int 3))) .nil)))))))) (.seq
 (.asg 8 (.e (.blt .min2 (.cons (.call 33 (.cons (.var 7) (.cons (.var 9) .nil))) (.cons (.bin .fdiv (.bin .sub (.var 1) (.sub (.var 4) (.con (.int 1)))) (.sub (.var 5) (.con (.int 1)))) .nil))))) (.seq
 (.kill [7, 8, 9, 11] (.ife (.cmp .gt (.var 8) (.con (.int 0))) (.seq
  (.app 6 (.tup (.cons (.var 4) (.cons (.var 5) (.cons (.con (.str [117, 110, 100, 101, 114])) (.cons (.var 8) .nil)))))) (.seq
  (.kill [8] (.asg 4 (.e (.tup (.cons (.bin .add (.sub (.var 4) (.con (.int 0))) (.bin .mul (.var 8) (.sub (.var 5) (.con (.int 0))))) (.cons (.bin .add (.sub (.var 4) (.con (.int 1))) (.bin .mul (.var 8) (.sub (.var 5) (.con (.int 1))))) .nil)))))) .skip)) (.seq
  (.kill [7, 8, 9, 11] (.ife (.cmp .eq (.sliceE (.var 9) .no (.yes (.con (.int 2)))) (.tup (.cons (.con (.int 0)) (.cons (.con (.int 0)) .nil)))) (.seq
   (.asg 8 (.e (.bin .fdiv (.bin .sub (.var 1) (.sub (.var 5) (.con (.int 1)))) (.sub (.var 4) (.con (.int 1)))))) (.seq
   (.app 6 (.tup (.cons (.var 4) (.cons (.var 5) (.cons (.con (.str [111, 118, 101, 114])) (.cons (.var 8) .nil)))))) (.seq
   (.kill [8] (.par [5, 3] [(.e (.tup (.cons (.bin .add (.sub (.var 5) (.con (.int 0))) (.bin .mul (.var 8) (.sub (.var 4) (.con (.int 0))))) (.cons (.bin .add (.sub (.var 5) (.con (.int 1))) (.bin .mul (.var 8) (.sub (.var 4) (.con (.int 1))))) .nil)))), (.e (.con (.bl false)))])) .skip))) (.seq
   (.kill [7, 9] (.asg 11 (.e (.bin .sub (.bin .sub (.con (.int 0)) (.call 26 (.cons (.call 31 (.cons (.tup (.cons (.bin .sub (.con (.int 0)) (.sub (.var 7) (.con (.int 0)))) (.cons (.bin .sub (.con (.int 0)) (.sub (.var 7) (.con (.int 1)))) (.cons (.sub (.var 7) (.con (.int 2))) (.cons (.sub (.var 7) (.con (.int 3))) .nil))))) (.cons (.call 32 (.cons (.var 9) .nil)) .nil))) .nil))) (.con (.int 1)))))) (.seq
   (.kill [11] (.asg 8 (.e (.blt .min2 (.cons (.var 11) (.cons (.bin .fdiv (.bin .sub (.var 1) (.sub (.var 5) (.con (.int 1)))) (.sub (.var 4) (.con (.int 1)))) .nil)))))) (.seq
   (.app 6 (.tup (.cons (.var 4) (.cons (.var 5) (.cons (.con (.str [111, 118, 101, 114])) (.cons (.var 8) .nil)))))) (.seq
   (.kill [8] (.asg 5 (.e (.tup (.cons (.bin .add (.sub (.var 5) (.con (.int 0))) (.bin .mul (.var 8) (.sub (.var 4) (.con (.int 0))))) (.cons (.bin .add (.sub (.var 5) (.con (.int 1))) (.bin .mul (.var 8) (.sub (.var 4) (.con (.int 1))))) .nil)))))) .skip)))))) .skip))) .skip))))
def d_runs : S := (.seq
 (.asg 2 (.e (.call 26 (.cons (.var 0) .nil)))) (.seq
 (.kill [2] (.par [4, 5, 6] [(.e (.tup (.cons (.var 2) (.cons (.con (.int 1)) .nil)))), (.e (.tup (.cons (.bin .add (.var 2) (.con (.int 1))) (.cons (.con (.int 1)) .nil)))), (.lst .nil)])) (.seq
 (.asg 3 (.e (.con (.bl true)))) (.seq
 (.kill [0, 1, 3, 4, 5, 7, 8, 9, 10, 11] (.whl c1_runs l1_runs)) (.seq
 (.frz [6] (.ret (.var 6))) .skip)))))
def d_moved : S := (.seq
 (.kill [0] (.unp [1, 2, 3, 4] (.var 0))) (.seq
 (.kill [3] (.ife (.cmp .eq (.var 3) (.con (.str [117, 110, 100, 101, 114]))) (.seq
  (.ret (.tup (.cons (.tup (.cons (.bin .add (.sub (.var 1) (.con (.int 0))) (.bin .mul (.var 4) (.sub (.var 2) (.con (.int 0))))) (.cons (.bin .add (.sub (.var 1) (.con (.int 1))) (.bin .mul (.var 4) (.sub (.var 2) (.con (.int 1))))) .nil))) (.cons (.var 2) .nil)))) .skip) .skip)) (.seq
 (.ret (.tup (.cons (.var 1) (.cons (.tup (.cons (.bin .add (.sub (.var 2) (.con (.int 0))) (.bin .mul (.var 4) (.sub (.var 1) (.con (.int 0))))) (.cons (.bin .add (.sub (.var 2) (.con (.int 1))) (.bin .mul (.var 4) (.sub (.var 1) (.con (.int 1))))) .nil))) .nil)))) .skip)))
def d_neighbours_of : S := (.seq
 (.kill [1] (.asg 2 (.e (.call 34 (.cons (.var 0) (.cons (.var 1) .nil)))))) (.seq
 (.kill [0, 3] (.ife (.cmp .eq (.var 2) (.lst .nil)) (.seq
  (.kill [0] (.asg 3 (.e (.call 26 (.cons (.var 0) .nil))))) (.seq
  (.ret (.tup (.cons (.tup (.cons (.var 3) (.cons (.con (.int 1)) .nil))) (.cons (.tup (.cons (.bin .add (.var 3) (.con (.int 1))) (.cons (.con (.int 1)) .nil))) .nil)))) .skip)) .skip)) (.seq
 (.ret (.call 35 (.cons (.sub (.var 2) (.neg (.con (.int 1)))) .nil))) .skip)))
def d_behind : S := (.seq
 (.ret (.sub (.call 36 (.cons (.tup (.cons (.sub (.var 0) (.con (.int 0))) (.cons (.con (.int 0)) (.cons (.sub (.var 0) (.con (.int 1))) (.cons (.con (.int 0)) .nil))))) (.cons (.var 1) .nil))) (.con (.int 1)))) .skip)
def d_ahead : S := (.seq
 (.kill [0, 1] (.unp [2, 3] (.call 37 (.cons (.tup (.cons (.bin .sub (.con (.int 0)) (.sub (.var 0) (.con (.int 0)))) (.cons (.sub (.var 0) (.con (.int 1))) .nil))) (.cons (.var 1) .nil))))) (.seq
 (.ret (.tup (.cons (.bin .sub (.con (.int 0)) (.var 2)) (.cons (.var 3) .nil)))) .skip))
def d_parents : S := (.seq
 (.expr (.call 6 (.cons (.var 0) .nil))) (.seq
 (.ife (.cmp .eq (.sub (.var 0) (.con (.int 1))) (.con (.int 1))) (.seq
  .never .skip) .skip) (.seq
 (.ret (.tup (.cons (.call 38 (.cons (.var 0) (.cons (.sub (.var 0) (.con (.int 1))) .nil))) (.cons (.call 37 (.cons (.var 0) (.cons (.sub (.var 0) (.con (.int 1))) .nil))) .nil)))) .skip)))
def d__law_take : S := (.seq
 (.kill [4] (.ife (.cmp .gt (.sub (.var 0) (.con (.int 0))) (.con (.int 0))) (.seq
  (.asg 4 (.e (.bin .mod (.blt .toint (.cons (.sub (.var 0) (.con (.int 0))) .nil)) (.var 1)))) (.seq
  (.kill [0, 1] (.setI (.var 0) (.con (.int 0)) (.bin .fdiv (.sub (.var 0) (.con (.int 0))) (.var 1)))) (.seq
  (.ret (.blt .toint (.cons (.var 4) .nil))) .skip))) .skip)) (.seq
 (.setI (.var 0) (.con (.int 2)) (.bin .add (.sub (.var 0) (.con (.int 2))) (.con (.int 1)))) (.seq
 (.asg 2 (.e (.sub (.lst (.cons (.con (.int 2147483647)) (.cons (.con (.int 2147483629)) (.cons (.con (.int 2147483587)) (.cons (.con (.int 2147483579)) (.cons (.con (.int 2147483563)) .nil)))))) (.bin .mod (.blt .toint (.cons (.sub (.var 0) (.con (.int 2))) .nil)) (.con (.int 5)))))) (.seq
 (.kill [2] (.asg 3 (.e (.bin .mod (.blt .toint (.cons (.bin .pow (.blt .toint (.cons (.bin .add (.bin .add (.sub (.var 0) (.con (.int 1))) (.bin .mul (.bin .mul (.con (.int 55657)) (.sub (.var 0) (.con (.int 2)))) (.sub (.var 0) (.con (.int 2))))) (.con (.int 4166))) .nil)) (.con (.int 3))) .nil)) (.var 2))))) (.seq
 (.kill [0] (.asg 3 (.e (.bin .mod (.blt .toint (.cons (.bin .mul (.var 3) (.bin .add (.bin .mod (.blt .toint (.cons (.var 3) .nil)) (.con (.int 8851))) (.bin .mul (.con (.int 1266)) (.sub (.var 0) (.con (.int 2)))))) .nil)) (.con (.int 2305843009213693907)))))) (.seq
 (.ret (.bin .mod (.blt .toint (.cons (.bin .fdiv (.var 3) (.con (.int 449))) .nil)) (.var 1))) .skip))))))
def d__law_of : S := (.seq
 (.ret (.sub (.var 1) (.call 40 (.cons (.var 0) (.cons (.blt .len (.cons (.var 1) .nil)) .nil))))) .skip)
def d_line : S := (.seq
 (.kill [0] (.unp [3, 4, 5, 6] (.var 0))) (.seq
 (.ret (.call 27 (.cons (.bin .add (.bin .mul (.var 3) (.var 1)) (.bin .mul (.var 2) (.var 5))) (.cons (.bin .mul (.var 4) (.var 1)) (.cons (.var 5) (.cons (.var 6) .nil)))))) .skip))
def d_turned_by : S := (.seq
 (.kill [1] (.unp [2, 3, 4, 5] (.var 1))) (.seq
 (.kill [0, 2, 3, 4, 5] (.par [6, 7] [(.e (.call 42 (.cons (.var 0) (.cons (.var 2) (.cons (.var 3) .nil))))), (.e (.call 42 (.cons (.var 0) (.cons (.var 4) (.cons (.var 5) .nil)))))])) (.seq
 (.ret (.ife (.cmp .eq (.sliceE (.var 7) .no (.yes (.con (.int 2)))) (.tup (.cons (.con (.int 0)) (.cons (.con (.int 0)) .nil)))) (.con .non) (.call 31 (.cons (.var 6) (.cons (.call 32 (.cons (.var 7) .nil)) .nil))))) .skip)))
def d_turned : S := (.seq
 (.expr (.call 20 (.cons (.var 0) .nil))) (.seq
 (.expr (.call 23 (.cons (.var 1) .nil))) (.seq
 (.kill [0, 1] (.asg 2 (.e (.call 43 (.cons (.var 0) (.cons (.var 1) .nil)))))) (.seq
 (.ife (.isN (.var 2)) (.seq
  .never .skip) .skip) (.seq
 (.ret (.var 2)) .skip)))))
def d_least_terms : S := (.seq
 (.asg 2 (.e (.blt .gcd (.cons (.var 0) (.cons (.var 1) .nil))))) (.seq
 (.ret (.tup (.cons (.bin .fdiv (.var 0) (.var 2)) (.cons (.bin .fdiv (.var 1) (.var 2)) .nil)))) .skip))
def d_middle : S := (.seq
 (.expr (.call 6 (.cons (.var 0) .nil))) (.seq
 (.expr (.call 6 (.cons (.var 1) .nil))) (.seq
 (.ret (.call 45 (.cons (.bin .add (.sub (.var 0) (.con (.int 0))) (.sub (.var 1) (.con (.int 0)))) (.cons (.bin .add (.sub (.var 0) (.con (.int 1))) (.sub (.var 1) (.con (.int 1)))) .nil)))) .skip)))
def d_as_number : S := (.seq
 (.expr (.call 6 (.cons (.var 0) .nil))) (.seq
 (.ret (.tup (.cons (.sub (.var 0) (.con (.int 0))) (.cons (.con (.int 0)) (.cons (.sub (.var 0) (.con (.int 1))) (.cons (.con (.int 0)) .nil)))))) .skip))
def d__law_is_row_right : S := (.seq
 (.kill [0] (.unp [3, 4] (.lc [9] (.name 9) (.seq (.tup (.cons (.con (.int 0)) (.cons (.con (.int 1)) .nil)))) .no (.meth .join (.con (.str [])) (.cons (.lc [10] (.name 10) (.rng1 (.call 40 (.cons (.var 0) (.cons (.con (.int 60)) .nil)))) .no (.call 41 (.cons (.var 0) (.cons (.ife (.cmp .eq (.var 9) (.con (.int 0))) (.lst (.cons (.con (.str [76])) (.cons (.con (.str [82])) (.cons (.con (.str [82])) .nil)))) (.lst (.cons (.con (.str [76])) (.cons (.con (.str [76])) (.cons (.con (.str [82])) .nil))))) .nil)))) .nil))))) (.seq
 (.ife (.bor (.bnot (.call 16 (.cons (.var 3) .nil))) (.bnot (.call 16 (.cons (.var 4) .nil)))) (.seq
  (.ret (.con (.bl false))) .skip) .skip) (.seq
 (.asg 1 (.e (.call 1 (.cons (.bin .add (.var 3) (.var 4)) .nil)))) (.seq
 (.ife (.bor (.cmp .ne (.var 1) (.call 11 (.cons (.bin .add (.var 3) (.var 4)) .nil))) (.cmp .ne (.call 21 (.cons (.call 44 (.cons (.call 47 (.cons (.call 1 (.cons (.var 4) .nil)) .nil)) (.cons (.call 10 (.cons (.var 3) .nil)) .nil))) .nil)) (.var 1))) (.seq
  (.ret (.con (.bl false))) .skip) .skip) (.seq
 (.kill [1, 4] (.ife (.bor (.cmp .ne (.call 25 (.cons (.call 10 (.cons (.var 3) .nil)) (.cons (.call 10 (.cons (.var 4) .nil)) .nil))) (.call 10 (.cons (.bin .add (.var 3) (.var 4)) .nil))) (.cmp .ne (.call 12 (.cons (.var 1) .nil)) (.bin .add (.var 3) (.var 4)))) (.seq
  (.ret (.con (.bl false))) .skip) .skip)) (.seq
 (.unp [5, 6, 7, 8] (.call 10 (.cons (.var 3) .nil))) (.seq
 (.asg 2 (.e (.call 1 (.cons (.var 3) .nil)))) (.seq
 (.kill [3] (.ife (.bor (.band (.cmp .gt (.var 7) (.con (.int 0))) (.cmp .ne (.call 46 (.cons (.var 2) (.cons (.tup (.cons (.var 5) (.cons (.var 7) .nil))) .nil))) (.call 1 (.cons (.bin .add (.var 3) (.con (.str [82]))) .nil)))) (.band (.cmp .gt (.var 8) (.con (.int 0))) (.cmp .ne (.call 46 (.cons (.var 2) (.cons (.tup (.cons (.var 6) (.cons (.var 8) .nil))) .nil))) (.call 1 (.cons (.bin .add (.var 3) (.con (.str [76]))) .nil))))) (.seq
  (.ret (.con (.bl false))) .skip) .skip)) (.seq
 (.ret (.bor (.cmp .eq (.sub (.var 2) (.con (.int 1))) (.con (.int 1))) (.bor (.cmp .eq (.var 7) (.con (.int 0))) (.bor (.cmp .eq (.var 8) (.con (.int 0))) (.cmp .eq (.call 39 (.cons (.var 2) .nil)) (.tup (.cons (.tup (.cons (.var 6) (.cons (.var 8) .nil))) (.cons (.tup (.cons (.var 5) (.cons (.var 7) .nil))) .nil)))))))) .skip)))))))))
def l1_is_shortest : S := (.seq
 (.kill [1] (.ife (.band (.cmp .eq (.bin .mod (.blt .len (.cons (.var 0) .nil)) (.var 1)) (.con (.int 0))) (.cmp .eq (.bin .mul (.sliceE (.var 0) .no (.yes (.var 1))) (.bin .fdiv (.blt .len (.cons (.var 0) .nil)) (.var 1))) (.var 0))) (.seq
  (.ret (.con (.bl false))) .skip) .skip)) .skip)
def d_is_shortest : S := (.seq
 (.kill [0, 1] (.for_ (.name 1) (.rng2 (.con (.int 1)) (.blt .len (.cons (.var 0) .nil))) l1_is_shortest)) (.seq
 (.ret (.con (.bl true))) .skip))
def d_are_ones : S := (.seq
 (.ret (.blt .all (.cons (.lc [1] (.name 1) (.seq (.var 0)) .no (.band (.call 4 (.cons (.var 1) .nil)) (.cmp .ge (.var 1) (.con (.int 1))))) .nil))) .skip)
def d_are_terms : S := (.seq
 (.ife (.bor (.bnot (.isinst (.var 0) .tuple)) (.bor (.cmp .ne (.blt .len (.cons (.var 0) .nil)) (.con (.int 2))) (.bnot (.blt .all (.cons (.lc [3] (.name 3) (.seq (.var 0)) .no (.isinst (.var 3) .tuple)) .nil))))) (.seq
  (.ret (.con (.bl false))) .skip) .skip) (.seq
 (.kill [0] (.unp [1, 2] (.var 0))) (.seq
 (.ife (.cmp .gt (.bin .add (.blt .len (.cons (.var 1) .nil)) (.blt .len (.cons (.var 2) .nil))) (.glob (.int 2000))) (.seq
  (.ret (.con (.bl false))) .skip) .skip) (.seq
 (.ife (.bor (.bnot (.blt .all (.cons (.lc [4] (.name 4) (.seq (.var 1)) .no (.call 4 (.cons (.var 4) .nil))) .nil))) (.bor (.bnot (.call 50 (.cons (.sliceE (.var 1) (.yes (.con (.int 1))) .no) .nil))) (.bnot (.call 50 (.cons (.var 2) .nil))))) (.seq
  (.ret (.con (.bl false))) .skip) .skip) (.seq
 (.ife (.cmp .eq (.var 2) (.tup .nil)) (.seq
  (.ret (.band (.cmp .ne (.var 1) (.tup .nil)) (.bor (.cmp .eq (.blt .len (.cons (.var 1) .nil)) (.con (.int 1))) (.cmp .ge (.sub (.var 1) (.neg (.con (.int 1)))) (.con (.int 2)))))) .skip) .skip) (.seq
 (.ret (.band (.call 49 (.cons (.var 2) .nil)) (.bor (.cmp .eq (.var 1) (.tup .nil)) (.cmp .ne (.sub (.var 1) (.neg (.con (.int 1)))) (.sub (.var 2) (.neg (.con (.int 1)))))))) .skip))))))
def d_check_terms : S := (.seq
 (.kill [0] (.ife (.bnot (.call 51 (.cons (.var 0) .nil))) (.seq
  .never .skip) .skip)) .skip)
def l1_turn_of : S := (.seq
 (.kill [1] (.par [2, 3, 4, 5] [(.e (.bin .add (.bin .mul (.var 2) (.var 1)) (.var 3))), (.e (.var 2)), (.e (.bin .add (.bin .mul (.var 4) (.var 1)) (.var 5))), (.e (.var 4))])) .skip)
def d_turn_of : S := (.seq
 (.par [2, 3, 4, 5] [(.e (.con (.int 1))), (.e (.con (.int 0))), (.e (.con (.int 0))), (.e (.con (.int 1)))]) (.seq
 (.kill [0, 1] (.for_ (.name 1) (.seq (.var 0)) l1_turn_of)) (.seq
 (.ret (.tup (.cons (.var 2) (.cons (.var 3) (.cons (.var 4) (.cons (.var 5) .nil)))))) .skip)))
def l1_root_of : S := (.seq
 (.kill [1] (.ife (.band (.cmp .eq (.bin .mod (.var 0) (.var 1)) (.con (.int 0))) (.cmp .eq (.bin .mul (.blt .isqrt (.cons (.bin .fdiv (.var 0) (.var 1)) .nil)) (.blt .isqrt (.cons (.bin .fdiv (.var 0) (.var 1)) .nil))) (.bin .fdiv (.var 0) (.var 1)))) (.seq
  (.ret (.tup (.cons (.blt .isqrt (.cons (.bin .fdiv (.var 0) (.var 1)) .nil)) (.cons (.var 1) .nil)))) .skip) .skip)) .skip)
def d_root_of : S := (.seq
 (.kill [0, 1] (.for_ (.name 1) (.rng2 (.con (.int 1)) (.bin .add (.glob (.int 1000)) (.con (.int 1)))) l1_root_of)) (.seq
 .never .skip))
def d_fraction_of : S := (.seq
 (.kill [0, 2, 4] (.unp [1, 2, 3, 4] (.call 53 (.cons (.var 0) .nil)))) (.seq
 (.ret (.call 45 (.cons (.var 1) (.cons (.var 3) .nil)))) .skip))
def l1_number_by : S := (.seq
 (.kill [2] (.asg 1 (.e (.call 28 (.cons (.tup (.cons (.var 2) (.cons (.con (.int 0)) (.cons (.con (.int 1)) (.cons (.con (.int 0)) .nil))))) (.cons (.call 32 (.cons (.var 1) .nil)) .nil)))))) .skip)
def d_number_by : S := (.seq
 (.expr (.call 52 (.cons (.var 0) .nil))) (.seq
 (.kill [0] (.unp [3, 4] (.var 0))) (.seq
 (.kill [11, 12] (.ife (.cmp .eq (.var 4) (.tup .nil)) (.seq
  (.kill [3] (.unp [11, 12] (.call 55 (.cons (.var 3) .nil)))) (.seq
  (.ret (.tup (.cons (.var 11) (.cons (.con (.int 0)) (.cons (.var 12) (.cons (.con (.int 0)) .nil)))))) .skip)) .skip)) (.seq
 (.kill [4] (.unp [5, 6, 7, 8] (.call 53 (.cons (.var 4) .nil)))) (.seq
 (.kill [6] (.unp [9, 10] (.call 54 (.cons (.bin .add (.bin .mul (.bin .sub (.var 8) (.var 5)) (.bin .sub (.var 8) (.var 5))) (.bin .mul (.bin .mul (.con (.int 4)) (.var 7)) (.var 6))) .nil)))) (.seq
 (.kill [5, 7, 8, 9, 10] (.asg 1 (.e (.call 27 (.cons (.bin .sub (.var 5) (.var 8)) (.cons (.var 9) (.cons (.bin .mul (.con (.int 2)) (.var 7)) (.cons (.var 10) .nil)))))))) (.seq
 (.kill [2, 3] (.for_ (.name 2) (.seq (.rev (.var 3))) l1_number_by)) (.seq
 (.ret (.var 1)) .skip))))))))
def d_less_floor : S := (.seq
 (.asg 1 (.e (.call 26 (.cons (.var 0) .nil)))) (.seq
 (.ret (.tup (.cons (.var 1) (.cons (.call 28 (.cons (.var 0) (.cons (.tup (.cons (.bin .sub (.con (.int 0)) (.var 1)) (.cons (.con (.int 0)) (.cons (.con (.int 1)) (.cons (.con (.int 0)) .nil))))) .nil))) .nil)))) .skip))
def c1_terms_of : E := (.cmp .notin (.var 0) (.var 2))
def l1_terms_of : S := (.seq
 (.ife (.cmp .eq (.blt .len (.cons (.var 1) .nil)) (.glob (.int 2000))) (.seq
  .never .skip) .skip) (.seq
 (.setO 2 (.var 0) (.blt .len (.cons (.var 1) .nil))) (.seq
 (.kill [0] (.unp [3, 4] (.call 57 (.cons (.var 0) .nil)))) (.seq
 (.kill [3] (.app 1 (.var 3))) (.seq
 (.ife (.cmp .eq (.sliceE (.var 4) .no (.yes (.con (.int 2)))) (.tup (.cons (.con (.int 0)) (.cons (.con (.int 0)) .nil)))) (.seq
  (.ret (.tup (.cons (.blt .tuple (.cons (.var 1) .nil)) (.cons (.tup .nil) .nil)))) .skip) .skip) (.seq
 (.kill [4] (.asg 0 (.e (.call 32 (.cons (.var 4) .nil))))) .skip))))))
def d_terms_of : S := (.seq
 (.par [1, 2] [(.lst .nil), .dT]) (.seq
 (.kill [3, 4] (.whl c1_terms_of l1_terms_of)) (.seq
 (.ret (.tup (.cons (.blt .tuple (.cons (.sliceE (.var 1) .no (.yes (.sub (.var 2) (.var 0)))) .nil)) (.cons (.blt .tuple (.cons (.sliceE (.var 1) (.yes (.sub (.var 2) (.var 0))) .no) .nil)) .nil)))) .skip)))
def d_terms : S := (.seq
 (.expr (.call 20 (.cons (.var 0) .nil))) (.seq
 (.ret (.call 58 (.cons (.var 0) .nil))) .skip))
def d__law_are_terms_right : S := (.seq
 (.kill [0] (.asg 1 (.e (.blt .tuple (.cons (.lc [6] (.name 6) (.rng1 (.bin .add (.con (.int 1)) (.call 40 (.cons (.var 0) (.cons (.con (.int 12)) .nil))))) .no (.blt .toint (.cons (.bin .add (.con (.int 1)) (.call 41 (.cons (.var 0) (.cons (.lst (.cons (.con (.int 0)) (.cons (.con (.int 0)) (.cons (.con (.int 1)) (.cons (.call 40 (.cons (.var 0) (.cons (.con (.int 9)) .nil))) .nil))))) .nil)))) .nil))) .nil))))) (.seq
 (.asg 1 (.e (.bin .add (.sliceE (.var 1) .no (.yes (.neg (.con (.int 1))))) (.tup (.cons (.bin .add (.sub (.var 1) (.neg (.con (.int 1)))) (.con (.int 1))) .nil))))) (.seq
 (.asg 2 (.e (.ife (.cmp .gt (.sub (.var 1) (.con (.int 0))) (.con (.int 1))) (.rev (.var 1)) (.ife (.cmp .gt (.blt .len (.cons (.var 1) .nil)) (.con (.int 1))) (.bin .add (.sliceE (.rev (.var 1)) .no (.yes (.neg (.con (.int 2))))) (.tup (.cons (.bin .add (.sub (.rev (.var 1)) (.neg (.con (.int 2)))) (.con (.int 1))) .nil))) (.var 1))))) (.seq
 (.par [4, 5] [(.e (.call 21 (.cons (.call 56 (.cons (.tup (.cons (.var 1) (.cons (.tup .nil) .nil))) .nil)) .nil))), (.e (.call 21 (.cons (.call 56 (.cons (.tup (.cons (.var 2) (.cons (.tup .nil) .nil))) .nil)) .nil)))]) (.seq
 (.asg 3 (.e (.ife (.cmp .eq (.bin .mod (.blt .toint (.cons (.blt .len (.cons (.var 1) .nil)) .nil)) (.con (.int 2))) (.con (.int 0))) (.con (.int 1)) (.neg (.con (.int 1)))))) (.seq
 (.kill [1, 2] (.ife (.bor (.cmp .ne (.call 59 (.cons (.call 47 (.cons (.var 4) .nil)) .nil)) (.tup (.cons (.var 1) (.cons (.tup .nil) .nil)))) (.bor (.cmp .ne (.call 59 (.cons (.call 47 (.cons (.var 5) .nil)) .nil)) (.tup (.cons (.var 2) (.cons (.tup .nil) .nil)))) (.cmp .ne (.sub (.var 4) (.con (.int 0))) (.sub (.var 5) (.con (.int 0)))))) (.seq
  (.ret (.con (.bl false))) .skip) .skip)) (.seq
 (.ret (.cmp .eq (.bin .mod (.blt .toint (.cons (.bin .add (.bin .mul (.sub (.var 4) (.con (.int 1))) (.sub (.var 5) (.con (.int 1)))) (.var 3)) .nil)) (.sub (.var 4) (.con (.int 0)))) (.con (.int 0)))) .skip)))))))
def d__law_right : S := (.seq
 (.ife (.bnot (.call 14 (.cons (.blt .toint (.cons (.bin .add (.con (.int 1)) (.call 40 (.cons (.var 0) (.cons (.con (.int 8)) .nil)))) .nil)) .nil))) (.seq
  (.ret (.con (.bl false))) .skip) .skip) (.seq
 (.ret (.blt .all (.cons (.lc [1] (.name 1) (.rng1 (.con (.int 3))) .no (.band (.call 48 (.cons (.var 0) .nil)) (.call 60 (.cons (.var 0) .nil)))) .nil))) .skip))
def d__law_pot : S := (.seq
 (.kill [0] (.asg 2 (.e (.ife (.cmp .lt (.var 1) (.blt .len (.cons (.var 0) .nil))) (.sub (.var 0) (.var 1)) (.bin .add (.bin .add (.bin .mod (.blt .toint (.cons (.blt .sum (.cons (.sliceE (.var 0) .no (.yes (.con (.int 1)))) .nil)) .nil)) (.con (.int 1000959))) (.bin .mul (.con (.int 7704)) (.var 1))) (.con (.int 2458))))))) (.seq
 (.asg 3 (.e (.bin .mul (.bin .mod (.blt .toint (.cons (.blt .abs (.cons (.var 2) .nil)) .nil)) (.bin .pow (.bin .pow (.con (.int 10)) (.con (.int 60))) (.con (.int 5)))) (.blt .toint (.cons (.cmp .ge (.blt .abs (.cons (.var 2) .nil)) (.bin .pow (.con (.int 10)) (.con (.int 18)))) .nil))))) (.seq
 (.kill [2] (.asg 4 (.e (.bin .mod (.blt .toint (.cons (.var 2) .nil)) (.con (.int 2305843009213693951)))))) (.seq
 (.ret (.newObj (.cons (.var 3) (.cons (.bin .mod (.blt .toint (.cons (.bin .add (.bin .add (.bin .mul (.var 4) (.con (.int 53745))) (.bin .mul (.bin .mul (.con (.int 11205)) (.var 1)) (.var 1))) (.con (.int 3036))) .nil)) (.con (.int 2305843009213693921))) (.cons (.con (.int 0)) .nil))))) .skip))))
def d__law_cells : S := (.seq
 (.ret (.lrg false (.blt .max2 (.cons (.con (.int 1)) (.cons (.blt .min2 (.cons (.var 1) (.cons (.blt .len (.cons (.var 0) .nil)) .nil))) .nil))))) .skip)
def d_law : S := (.seq
 (.ret (.blt .all (.cons (.lc [1] (.name 1) (.seq (.call 63 (.cons (.var 0) (.cons (.con (.int 2)) .nil)))) .no (.call 61 (.cons (.call 62 (.cons (.var 0) (.cons (.var 1) .nil))) .nil))) .nil))) .skip)
def r_fraction_at : DR := ⟨"fraction_at", "fraction_at", defArgs (topS 28), defBody (topS 28), defScope (topS 28), ["text", "sign", "under", "over", "here"], ["text"], d_fraction_at⟩
def r_by_road : DR := ⟨"by_road", "by_road", defArgs (topS 29), defBody (topS 29), defScope (topS 29), ["road", "sign"], ["road"], d_by_road⟩
def r__law_divisor : DR := ⟨"_law_divisor", "_law_divisor", defArgs (topS 83), defBody (topS 83), defScope (topS 83), ["one", "other", "lap"], ["one", "other"], d__law_divisor⟩
def r__law_fraction : DR := ⟨"_law_fraction", "_law_fraction", defArgs (topS 84), defBody (topS 84), defScope (topS 84), ["top", "low", "by"], ["top", "low"], d__law_fraction⟩
def r_is_integer : DR := ⟨"is_integer", "is_integer", defArgs (topS 15), defBody (topS 15), defScope (topS 15), ["value"], ["value"], d_is_integer⟩
def r_is_fraction : DR := ⟨"is_fraction", "is_fraction", defArgs (topS 19), defBody (topS 19), defScope (topS 19), ["value", "one"], ["value"], d_is_fraction⟩
def r_check_fraction : DR := ⟨"check_fraction", "check_fraction", defArgs (topS 20), defBody (topS 20), defScope (topS 20), ["value"], ["value"], d_check_fraction⟩
def r_check_above : DR := ⟨"check_above", "check_above", defArgs (topS 25), defBody (topS 25), defScope (topS 25), ["fraction"], ["fraction"], d_check_above⟩
def r_road_of : DR := ⟨"road_of", "road_of", defArgs (topS 26), defBody (topS 26), defScope (topS 26), ["fraction", "top", "low", "found", "turns", "many", "sign"], ["fraction"], d_road_of⟩
def r_meet : DR := ⟨"meet", "meet", defArgs (topS 30), defBody (topS 30), defScope (topS 30), ["one", "other", "first", "second", "same"], ["one", "other"], d_meet⟩
def r__law_turn : DR := ⟨"_law_turn", "_law_turn", defArgs (topS 87), defBody (topS 87), defScope (topS 87), ["text", "sign", "p", "q", "r", "s"], ["text"], d__law_turn⟩
def r__law_end : DR := ⟨"_law_end", "_law_end", defArgs (topS 88), defBody (topS 88), defScope (topS 88), ["text", "p", "q", "r", "s"], ["text"], d__law_end⟩
def r_road : DR := ⟨"road", "road", defArgs (topS 27), defBody (topS 27), defScope (topS 27), ["fraction"], ["fraction"], d_road⟩
def r__law_is_less : DR := ⟨"_law_is_less", "_law_is_less", defArgs (topS 85), defBody (topS 85), defScope (topS 85), ["one", "other"], ["one", "other"], d__law_is_less⟩
def r__law_are_all_right : DR := ⟨"_law_are_all_right", "_law_are_all_right", defArgs (topS 89), defBody (topS 89), defScope (topS 89), ["size", "rows", "lap", "ends", "one", "longer", "text", "top", "low", "by", "other", "line_v", "there", "same", "at"], ["size"], d__law_are_all_right⟩
def r__law_swapped : DR := ⟨"_law_swapped", "_law_swapped", defArgs (topS 86), defBody (topS 86), defScope (topS 86), ["text", "sign"], ["text"], d__law_swapped⟩
def r__law_is_back_right : DR := ⟨"_law_is_back_right", "_law_is_back_right", defArgs (topS 90), defBody (topS 90), defScope (topS 90), ["text", "together", "one", "back", "about"], ["text"], d__law_is_back_right⟩
def r_is_between : DR := ⟨"is_between", "is_between", defArgs (topS 16), defBody (topS 16), defScope (topS 16), ["value", "low", "high"], ["value", "low", "high"], d_is_between⟩
def r_is_squarefree : DR := ⟨"is_squarefree", "is_squarefree", defArgs (topS 34), defBody (topS 34), defScope (topS 34), ["value", "part"], ["value"], d_is_squarefree⟩
def r_is_number : DR := ⟨"is_number", "is_number", defArgs (topS 35), defBody (topS 35), defScope (topS 35), ["value", "a", "b", "c", "d", "one"], ["value"], d_is_number⟩
def r_check_number : DR := ⟨"check_number", "check_number", defArgs (topS 36), defBody (topS 36), defScope (topS 36), ["value"], ["value"], d_check_number⟩
def r_as_fraction : DR := ⟨"as_fraction", "as_fraction", defArgs (topS 39), defBody (topS 39), defScope (topS 39), ["number"], ["number"], d_as_fraction⟩
def r_is_turn : DR := ⟨"is_turn", "is_turn", defArgs (topS 71), defBody (topS 71), defScope (topS 71), ["value", "one"], ["value"], d_is_turn⟩
def r_check_turn : DR := ⟨"check_turn", "check_turn", defArgs (topS 72), defBody (topS 72), defScope (topS 72), ["value"], ["value"], d_check_turn⟩
def r_least_turn : DR := ⟨"least_turn", "least_turn", defArgs (topS 76), defBody (topS 76), defScope (topS 76), ["turn", "common", "first", "p", "q", "r", "s", "one"], ["turn"], d_least_turn⟩
def r_after : DR := ⟨"after", "after", defArgs (topS 77), defBody (topS 77), defScope (topS 77), ["one", "other", "p", "q", "r", "s", "t", "u", "v", "w"], ["one", "other"], d_after⟩
def r_floor_of : DR := ⟨"floor_of", "floor_of", defArgs (topS 40), defBody (topS 40), defScope (topS 40), ["number", "square", "whole", "a", "b", "c", "d"], ["number"], d_floor_of⟩
def r_least_form : DR := ⟨"least_form", "least_form", defArgs (topS 37), defBody (topS 37), defScope (topS 37), ["a", "b", "c", "d", "common"], ["a", "b", "c", "d"], d_least_form⟩
def r_summed : DR := ⟨"summed", "summed", defArgs (topS 42), defBody (topS 42), defScope (topS 42), ["one", "other", "a", "b", "c", "d", "e", "f", "g", "h"], ["one", "other"], d_summed⟩
def r_many_times : DR := ⟨"many_times", "many_times", defArgs (topS 41), defBody (topS 41), defScope (topS 41), ["number", "many", "a", "b", "c", "d"], ["number", "many"], d_many_times⟩
def r_above : DR := ⟨"above", "above", defArgs (topS 59), defBody (topS 59), defScope (topS 59), ["number", "fraction"], ["number", "fraction"], d_above⟩
def r_multiplied : DR := ⟨"multiplied", "multiplied", defArgs (topS 43), defBody (topS 43), defScope (topS 43), ["one", "other", "root", "a", "b", "c", "d", "e", "f", "g", "h"], ["one", "other"], d_multiplied⟩
def r_inverted : DR := ⟨"inverted", "inverted", defArgs (topS 44), defBody (topS 44), defScope (topS 44), ["number", "a", "b", "c", "d"], ["number"], d_inverted⟩
def r_how_often : DR := ⟨"how_often", "how_often", defArgs (topS 60), defBody (topS 60), defScope (topS 60), ["one", "other"], ["one", "other"], d_how_often⟩
def r_runs : DR := ⟨"runs", "runs", defArgs (topS 61), defBody (topS 61), defScope (topS 61), ["number", "bound", "whole", "is_going", "under", "over", "found", "gap", "many", "here", "there", "most"], ["number", "bound"], d_runs⟩
def r_moved : DR := ⟨"moved", "moved", defArgs (topS 62), defBody (topS 62), defScope (topS 62), ["run", "under", "over", "side", "many"], ["run"], d_moved⟩
def r_neighbours_of : DR := ⟨"neighbours_of", "neighbours_of", defArgs (topS 63), defBody (topS 63), defScope (topS 63), ["number", "bound", "found", "whole"], ["number", "bound"], d_neighbours_of⟩
def r_behind : DR := ⟨"behind", "behind", defArgs (topS 65), defBody (topS 65), defScope (topS 65), ["fraction", "bound"], ["fraction", "bound"], d_behind⟩
def r_ahead : DR := ⟨"ahead", "ahead", defArgs (topS 66), defBody (topS 66), defScope (topS 66), ["fraction", "bound", "top", "low"], ["fraction", "bound"], d_ahead⟩
def r_parents : DR := ⟨"parents", "parents", defArgs (topS 67), defBody (topS 67), defScope (topS 67), ["fraction"], ["fraction"], d_parents⟩
def r__law_take : DR := ⟨"_law_take", "_law_take", defArgs (topS 80), defBody (topS 80), defScope (topS 80), ["pot", "upto", "prime", "blend", "digit"], ["pot", "upto"], d__law_take⟩
def r__law_of : DR := ⟨"_law_of", "_law_of", defArgs (topS 82), defBody (topS 82), defScope (topS 82), ["pot", "some"], ["pot", "some"], d__law_of⟩
def r_line : DR := ⟨"line", "line", defArgs (topS 73), defBody (topS 73), defScope (topS 73), ["number", "many", "more", "a", "b", "c", "d"], ["number", "many", "more"], d_line⟩
def r_turned_by : DR := ⟨"turned_by", "turned_by", defArgs (topS 74), defBody (topS 74), defScope (topS 74), ["number", "turn", "p", "q", "r", "s", "above", "below"], ["number", "turn"], d_turned_by⟩
def r_turned : DR := ⟨"turned", "turned", defArgs (topS 75), defBody (topS 75), defScope (topS 75), ["number", "turn", "found"], ["number", "turn"], d_turned⟩
def r_least_terms : DR := ⟨"least_terms", "least_terms", defArgs (topS 17), defBody (topS 17), defScope (topS 17), ["top", "low", "common"], ["top", "low"], d_least_terms⟩
def r_middle : DR := ⟨"middle", "middle", defArgs (topS 68), defBody (topS 68), defScope (topS 68), ["one", "other"], ["one", "other"], d_middle⟩
def r_as_number : DR := ⟨"as_number", "as_number", defArgs (topS 38), defBody (topS 38), defScope (topS 38), ["fraction"], ["fraction"], d_as_number⟩
def r__law_is_row_right : DR := ⟨"_law_is_row_right", "_law_is_row_right", defArgs (topS 91), defBody (topS 91), defScope (topS 91), ["pot", "both", "here", "text", "line_v", "p", "q", "r", "s", "way", "sign"], ["pot"], d__law_is_row_right⟩
def r_is_shortest : DR := ⟨"is_shortest", "is_shortest", defArgs (topS 48), defBody (topS 48), defScope (topS 48), ["row", "size"], ["row"], d_is_shortest⟩
def r_are_ones : DR := ⟨"are_ones", "are_ones", defArgs (topS 47), defBody (topS 47), defScope (topS 47), ["row", "one"], ["row"], d_are_ones⟩
def r_are_terms : DR := ⟨"are_terms", "are_terms", defArgs (topS 49), defBody (topS 49), defScope (topS 49), ["value", "ahead", "again", "row", "one"], ["value"], d_are_terms⟩
def r_check_terms : DR := ⟨"check_terms", "check_terms", defArgs (topS 50), defBody (topS 50), defScope (topS 50), ["value"], ["value"], d_check_terms⟩
def r_turn_of : DR := ⟨"turn_of", "turn_of", defArgs (topS 54), defBody (topS 54), defScope (topS 54), ["row", "one", "p", "q", "r", "s"], ["row"], d_turn_of⟩
def r_root_of : DR := ⟨"root_of", "root_of", defArgs (topS 56), defBody (topS 56), defScope (topS 56), ["value", "rest"], ["value"], d_root_of⟩
def r_fraction_of : DR := ⟨"fraction_of", "fraction_of", defArgs (topS 55), defBody (topS 55), defScope (topS 55), ["row", "p", "q", "r", "s"], ["row"], d_fraction_of⟩
def r_number_by : DR := ⟨"number_by", "number_by", defArgs (topS 57), defBody (topS 57), defScope (topS 57), ["told", "number", "one", "ahead", "again", "p", "q", "r", "s", "part", "rest", "top", "low"], ["told"], d_number_by⟩
def r_less_floor : DR := ⟨"less_floor", "less_floor", defArgs (topS 51), defBody (topS 51), defScope (topS 51), ["number", "whole"], ["number"], d_less_floor⟩
def r_terms_of : DR := ⟨"terms_of", "terms_of", defArgs (topS 52), defBody (topS 52), defScope (topS 52), ["number", "found", "known", "whole", "left"], ["number"], d_terms_of⟩
def r_terms : DR := ⟨"terms", "terms", defArgs (topS 53), defBody (topS 53), defScope (topS 53), ["number"], ["number"], d_terms⟩
def r__law_are_terms_right : DR := ⟨"_law_are_terms_right", "_law_are_terms_right", defArgs (topS 92), defBody (topS 92), defScope (topS 92), ["pot", "row", "back", "side", "one", "other", "term"], ["pot"], d__law_are_terms_right⟩
def r__law_right : DR := ⟨"_law_right", "_law_right", defArgs (topS 93), defBody (topS 93), defScope (topS 93), ["pot", "lap"], ["pot"], d__law_right⟩
def r__law_pot : DR := ⟨"_law_pot", "_law_pot", defArgs (topS 79), defBody (topS 79), defScope (topS 79), ["script", "place", "cell", "own", "small"], ["script", "place"], d__law_pot⟩
def r__law_cells : DR := ⟨"_law_cells", "_law_cells", defArgs (topS 81), defBody (topS 81), defScope (topS 81), ["script", "most"], ["script", "most"], d__law_cells⟩
def r_law : DR := ⟨"law", "law", defArgs (topS 94), defBody (topS 94), defScope (topS 94), ["script", "place"], ["script"], d_law⟩
def rowsP : List DR := [r_fraction_at, r_by_road, r__law_divisor, r__law_fraction, r_is_integer, r_is_fraction, r_check_fraction, r_check_above, r_road_of, r_meet, r__law_turn, r__law_end, r_road, r__law_is_less, r__law_are_all_right, r__law_swapped, r__law_is_back_right, r_is_between, r_is_squarefree, r_is_number, r_check_number, r_as_fraction, r_is_turn, r_check_turn, r_least_turn, r_after, r_floor_of, r_least_form, r_summed, r_many_times, r_above, r_multiplied, r_inverted, r_how_often, r_runs, r_moved, r_neighbours_of, r_behind, r_ahead, r_parents, r__law_take, r__law_of, r_line, r_turned_by, r_turned, r_least_terms, r_middle, r_as_number, r__law_is_row_right, r_is_shortest, r_are_ones, r_are_terms, r_check_terms, r_turn_of, r_root_of, r_fraction_of, r_number_by, r_less_floor, r_terms_of, r_terms, r__law_are_terms_right, r__law_right, r__law_pot, r__law_cells, r_law]
def glP : List (PySem.Str × Val) := [("MOST_TURNS", (.int 2000)), ("LEFT", (.str [76])), ("RIGHT", (.str [82])), ("MOST_ROOT", (.int 1000)), ("FOUR_numbers", (.int 4)), ("MOST_TERMS", (.int 2000)), ("FOUR_turns", (.int 4))]
def ckP : List (List Ky) := []
def dsP : List Def := rowsP.map DR.def_
def wnP : List (PySem.Str × Wn) := [wb "gcd" "math.gcd", wb "isqrt" "math.isqrt", wa "BeatError", wa "BadFraction", wa "BadNumber", wa "BadRoad", wa "BadTerms", wa "BadTurn", wa "NoFraction", wa "NotAbove", wa "Nothing", wa "TooGreat", wa "TooLong", wa "Whole", wf "is_integer" r_is_integer, wf "is_between" r_is_between, wf "least_terms" r_least_terms, wf "is_fraction" r_is_fraction, wf "check_fraction" r_check_fraction, wc "MOST_TURNS" (.int 2000), wc "LEFT" (.str [76]), wc "RIGHT" (.str [82]), wf "check_above" r_check_above, wf "road_of" r_road_of, wf "road" r_road, wf "fraction_at" r_fraction_at, wf "by_road" r_by_road, wf "meet" r_meet, wc "MOST_ROOT" (.int 1000), wc "FOUR_numbers" (.int 4), wf "is_squarefree" r_is_squarefree, wf "is_number" r_is_number, wf "check_number" r_check_number, wf "least_form" r_least_form, wf "as_number" r_as_number, wf "as_fraction" r_as_fraction, wf "floor_of" r_floor_of, wf "many_times" r_many_times, wf "summed" r_summed, wf "multiplied" r_multiplied, wf "inverted" r_inverted, wc "MOST_TERMS" (.int 2000), wf "are_ones" r_are_ones, wf "is_shortest" r_is_shortest, wf "are_terms" r_are_terms, wf "check_terms" r_check_terms, wf "less_floor" r_less_floor, wf "terms_of" r_terms_of, wf "terms" r_terms, wf "turn_of" r_turn_of, wf "fraction_of" r_fraction_of, wf "root_of" r_root_of, wf "number_by" r_number_by, wf "above" r_above, wf "how_often" r_how_often, wf "runs" r_runs, wf "moved" r_moved, wf "neighbours_of" r_neighbours_of, wf "behind" r_behind, wf "ahead" r_ahead, wf "parents" r_parents, wf "middle" r_middle, wc "FOUR_turns" (.int 4), wf "is_turn" r_is_turn, wf "check_turn" r_check_turn, wf "line" r_line, wf "turned_by" r_turned_by, wf "turned" r_turned, wf "least_turn" r_least_turn, wf "after" r_after, wf "_law_pot" r__law_pot, wf "_law_take" r__law_take, wf "_law_cells" r__law_cells, wf "_law_of" r__law_of, wf "_law_divisor" r__law_divisor, wf "_law_fraction" r__law_fraction, wf "_law_is_less" r__law_is_less, wf "_law_swapped" r__law_swapped, wf "_law_turn" r__law_turn, wf "_law_end" r__law_end, wf "_law_are_all_right" r__law_are_all_right, wf "_law_is_back_right" r__law_is_back_right, wf "_law_is_row_right" r__law_is_row_right, wf "_law_are_terms_right" r__law_are_terms_right, wf "_law_right" r__law_right, wf "law" r_law]
def hdP : HD := ⟨rowsP, glP, true, ckP, wnP⟩
end LawP
set_option autoImplicit true
set_option maxHeartbeats 0
namespace LawP
open MP PySem L2
theorem b_fraction_at : BindP r_fraction_at := fun _ _ _ _ _ _ us hl => match us, hl with | [_], _ => rfl
theorem b_by_road : BindP r_by_road := fun _ _ _ _ _ _ us hl => match us, hl with | [_], _ => rfl
theorem b__law_divisor : BindP r__law_divisor := fun _ _ _ _ _ _ us hl => match us, hl with | [_, _], _ => rfl
theorem b__law_fraction : BindP r__law_fraction := fun _ _ _ _ _ _ us hl => match us, hl with | [_, _], _ => rfl
theorem b_is_integer : BindP r_is_integer := fun _ _ _ _ _ _ us hl => match us, hl with | [_], _ => rfl
theorem b_is_fraction : BindP r_is_fraction := fun _ _ _ _ _ _ us hl => match us, hl with | [_], _ => rfl
theorem b_check_fraction : BindP r_check_fraction := fun _ _ _ _ _ _ us hl => match us, hl with | [_], _ => rfl
theorem b_check_above : BindP r_check_above := fun _ _ _ _ _ _ us hl => match us, hl with | [_], _ => rfl
theorem b_road_of : BindP r_road_of := fun _ _ _ _ _ _ us hl => match us, hl with | [_], _ => rfl
theorem b_meet : BindP r_meet := fun _ _ _ _ _ _ us hl => match us, hl with | [_, _], _ => rfl
theorem b__law_turn : BindP r__law_turn := fun _ _ _ _ _ _ us hl => match us, hl with | [_], _ => rfl
theorem b__law_end : BindP r__law_end := fun _ _ _ _ _ _ us hl => match us, hl with | [_], _ => rfl
theorem b_road : BindP r_road := fun _ _ _ _ _ _ us hl => match us, hl with | [_], _ => rfl
theorem b__law_is_less : BindP r__law_is_less := fun _ _ _ _ _ _ us hl => match us, hl with | [_, _], _ => rfl
theorem b__law_are_all_right : BindP r__law_are_all_right := fun _ _ _ _ _ _ us hl => match us, hl with | [_], _ => rfl
theorem b__law_swapped : BindP r__law_swapped := fun _ _ _ _ _ _ us hl => match us, hl with | [_], _ => rfl
theorem b__law_is_back_right : BindP r__law_is_back_right := fun _ _ _ _ _ _ us hl => match us, hl with | [_], _ => rfl
theorem b_is_between : BindP r_is_between := fun _ _ _ _ _ _ us hl => match us, hl with | [_, _, _], _ => rfl
theorem b_is_squarefree : BindP r_is_squarefree := fun _ _ _ _ _ _ us hl => match us, hl with | [_], _ => rfl
theorem b_is_number : BindP r_is_number := fun _ _ _ _ _ _ us hl => match us, hl with | [_], _ => rfl
theorem b_check_number : BindP r_check_number := fun _ _ _ _ _ _ us hl => match us, hl with | [_], _ => rfl
theorem b_as_fraction : BindP r_as_fraction := fun _ _ _ _ _ _ us hl => match us, hl with | [_], _ => rfl
theorem b_is_turn : BindP r_is_turn := fun _ _ _ _ _ _ us hl => match us, hl with | [_], _ => rfl
theorem b_check_turn : BindP r_check_turn := fun _ _ _ _ _ _ us hl => match us, hl with | [_], _ => rfl
theorem b_least_turn : BindP r_least_turn := fun _ _ _ _ _ _ us hl => match us, hl with | [_], _ => rfl
theorem b_after : BindP r_after := fun _ _ _ _ _ _ us hl => match us, hl with | [_, _], _ => rfl
theorem b_floor_of : BindP r_floor_of := fun _ _ _ _ _ _ us hl => match us, hl with | [_], _ => rfl
theorem b_least_form : BindP r_least_form := fun _ _ _ _ _ _ us hl => match us, hl with | [_, _, _, _], _ => rfl
theorem b_summed : BindP r_summed := fun _ _ _ _ _ _ us hl => match us, hl with | [_, _], _ => rfl
theorem b_many_times : BindP r_many_times := fun _ _ _ _ _ _ us hl => match us, hl with | [_, _], _ => rfl
theorem b_above : BindP r_above := fun _ _ _ _ _ _ us hl => match us, hl with | [_, _], _ => rfl
theorem b_multiplied : BindP r_multiplied := fun _ _ _ _ _ _ us hl => match us, hl with | [_, _], _ => rfl
theorem b_inverted : BindP r_inverted := fun _ _ _ _ _ _ us hl => match us, hl with | [_], _ => rfl
theorem b_how_often : BindP r_how_often := fun _ _ _ _ _ _ us hl => match us, hl with | [_, _], _ => rfl
theorem b_runs : BindP r_runs := fun _ _ _ _ _ _ us hl => match us, hl with | [_, _], _ => rfl
theorem b_moved : BindP r_moved := fun _ _ _ _ _ _ us hl => match us, hl with | [_], _ => rfl
theorem b_neighbours_of : BindP r_neighbours_of := fun _ _ _ _ _ _ us hl => match us, hl with | [_, _], _ => rfl
theorem b_behind : BindP r_behind := fun _ _ _ _ _ _ us hl => match us, hl with | [_, _], _ => rfl
theorem b_ahead : BindP r_ahead := fun _ _ _ _ _ _ us hl => match us, hl with | [_, _], _ => rfl
theorem b_parents : BindP r_parents := fun _ _ _ _ _ _ us hl => match us, hl with | [_], _ => rfl
theorem b__law_take : BindP r__law_take := fun _ _ _ _ _ _ us hl => match us, hl with | [_, _], _ => rfl
theorem b__law_of : BindP r__law_of := fun _ _ _ _ _ _ us hl => match us, hl with | [_, _], _ => rfl
theorem b_line : BindP r_line := fun _ _ _ _ _ _ us hl => match us, hl with | [_, _, _], _ => rfl
theorem b_turned_by : BindP r_turned_by := fun _ _ _ _ _ _ us hl => match us, hl with | [_, _], _ => rfl
theorem b_turned : BindP r_turned := fun _ _ _ _ _ _ us hl => match us, hl with | [_, _], _ => rfl
theorem b_least_terms : BindP r_least_terms := fun _ _ _ _ _ _ us hl => match us, hl with | [_, _], _ => rfl
theorem b_middle : BindP r_middle := fun _ _ _ _ _ _ us hl => match us, hl with | [_, _], _ => rfl
theorem b_as_number : BindP r_as_number := fun _ _ _ _ _ _ us hl => match us, hl with | [_], _ => rfl
theorem b__law_is_row_right : BindP r__law_is_row_right := fun _ _ _ _ _ _ us hl => match us, hl with | [_], _ => rfl
theorem b_is_shortest : BindP r_is_shortest := fun _ _ _ _ _ _ us hl => match us, hl with | [_], _ => rfl
theorem b_are_ones : BindP r_are_ones := fun _ _ _ _ _ _ us hl => match us, hl with | [_], _ => rfl
theorem b_are_terms : BindP r_are_terms := fun _ _ _ _ _ _ us hl => match us, hl with | [_], _ => rfl
theorem b_check_terms : BindP r_check_terms := fun _ _ _ _ _ _ us hl => match us, hl with | [_], _ => rfl
theorem b_turn_of : BindP r_turn_of := fun _ _ _ _ _ _ us hl => match us, hl with | [_], _ => rfl
theorem b_root_of : BindP r_root_of := fun _ _ _ _ _ _ us hl => match us, hl with | [_], _ => rfl
theorem b_fraction_of : BindP r_fraction_of := fun _ _ _ _ _ _ us hl => match us, hl with | [_], _ => rfl
theorem b_number_by : BindP r_number_by := fun _ _ _ _ _ _ us hl => match us, hl with | [_], _ => rfl
theorem b_less_floor : BindP r_less_floor := fun _ _ _ _ _ _ us hl => match us, hl with | [_], _ => rfl
theorem b_terms_of : BindP r_terms_of := fun _ _ _ _ _ _ us hl => match us, hl with | [_], _ => rfl
theorem b_terms : BindP r_terms := fun _ _ _ _ _ _ us hl => match us, hl with | [_], _ => rfl
theorem b__law_are_terms_right : BindP r__law_are_terms_right := fun _ _ _ _ _ _ us hl => match us, hl with | [_], _ => rfl
theorem b__law_right : BindP r__law_right := fun _ _ _ _ _ _ us hl => match us, hl with | [_], _ => rfl
theorem b__law_pot : BindP r__law_pot := fun _ _ _ _ _ _ us hl => match us, hl with | [_, _], _ => rfl
theorem b__law_cells : BindP r__law_cells := fun _ _ _ _ _ _ us hl => match us, hl with | [_, _], _ => rfl
theorem b_law : BindP r_law := fun _ _ _ _ _ _ us hl => match us, hl with | [_], _ => rfl
theorem allB : AllB rowsP := .cons b_fraction_at (.cons b_by_road (.cons b__law_divisor (.cons b__law_fraction (.cons b_is_integer (.cons b_is_fraction (.cons b_check_fraction (.cons b_check_above (.cons b_road_of (.cons b_meet (.cons b__law_turn (.cons b__law_end (.cons b_road (.cons b__law_is_less (.cons b__law_are_all_right (.cons b__law_swapped (.cons b__law_is_back_right (.cons b_is_between (.cons b_is_squarefree (.cons b_is_number (.cons b_check_number (.cons b_as_fraction (.cons b_is_turn (.cons b_check_turn (.cons b_least_turn (.cons b_after (.cons b_floor_of (.cons b_least_form (.cons b_summed (.cons b_many_times (.cons b_above (.cons b_multiplied (.cons b_inverted (.cons b_how_often (.cons b_runs (.cons b_moved (.cons b_neighbours_of (.cons b_behind (.cons b_ahead (.cons b_parents (.cons b__law_take (.cons b__law_of (.cons b_line (.cons b_turned_by (.cons b_turned (.cons b_least_terms (.cons b_middle (.cons b_as_number (.cons b__law_is_row_right (.cons b_is_shortest (.cons b_are_ones (.cons b_are_terms (.cons b_check_terms (.cons b_turn_of (.cons b_root_of (.cons b_fraction_of (.cons b_number_by (.cons b_less_floor (.cons b_terms_of (.cons b_terms (.cons b__law_are_terms_right (.cons b__law_right (.cons b__law_pot (.cons b__law_cells (.cons b_law (.nil)))))))))))))))))))))))))))))))))))))))))))))))))))))))))))))))))
theorem chkAll : (rowsP.zipIdx.all fun x => okB rowsP glP true x.2 x.1) = true := by decide +kernel
theorem okP : hdP.Ok := ⟨chk_of chkAll, bnd_of allB, by decide, (fun h => nomatch h), nodup_ok (by decide +kernel), free_of (by decide +kernel), rin_of (p := [25, 26, 74, 75, 14, 17, 18, 22, 23, 27, 78, 79, 24, 76, 80, 77, 81, 15, 30, 31, 32, 35, 63, 64, 68, 69, 36, 33, 38, 37, 53, 39, 40, 54, 55, 56, 57, 58, 59, 60, 71, 73, 65, 66, 67, 16, 61, 34, 82, 43, 42, 44, 45, 49, 51, 50, 52, 46, 47, 48, 83, 84, 70, 72, 85]) rfl, gin_of (p := [19, 20, 21, 28, 29, 41, 62]) rfl, fun _ => ⟨List.mem_of_getElem? (i := 0) rfl, List.mem_of_getElem? (i := 1) rfl⟩⟩
end LawP
namespace LawH
open PySem PySem.Spec PyProof.Rows L2 MP LawP
abbrev R : PySem.W.OpenRow := PySem.W.OpenLaw.row PySem.Challenge.rw_wheelandbell_k36_whole_roads_read_from_b
abbrev hk : PySem.W.Hook := hookM hdP
def ob (s : PySem.W.SharedT) : ObT := obM hdP (HandSHeadRun.getT s)
theorem ob_eq (s : PySem.W.SharedT) : ob s = hk.obs s.abs := obM_eq (HandSHeadRun.getT_eq s)
def loose : List PySem.Str := [Str.ofString "__name__", Str.ofString "BeatError", Str.ofString "BadFraction", Str.ofString "BadNumber", Str.ofString "BadRoad", Str.ofString "BadTerms", Str.ofString "BadTurn", Str.ofString "NoFraction", Str.ofString "NotAbove", Str.ofString "Nothing", Str.ofString "TooGreat", Str.ofString "TooLong", Str.ofString "Whole", Str.ofString "is_integer", Str.ofString "is_between", Str.ofString "least_terms", Str.ofString "is_fraction", Str.ofString "check_fraction", Str.ofString "MOST_TURNS", Str.ofString "LEFT", Str.ofString "RIGHT", Str.ofString "check_above", Str.ofString "road_of", Str.ofString "road", Str.ofString "fraction_at", Str.ofString "by_road", Str.ofString "meet", Str.ofString "MOST_ROOT", Str.ofString "FOUR_numbers", Str.ofString "is_squarefree", Str.ofString "is_number", Str.ofString "check_number", Str.ofString "least_form", Str.ofString "as_number", Str.ofString "as_fraction"] ++ [Str.ofString "floor_of", Str.ofString "many_times", Str.ofString "summed", Str.ofString "multiplied", Str.ofString "inverted", Str.ofString "MOST_TERMS", Str.ofString "are_ones", Str.ofString "is_shortest", Str.ofString "are_terms", Str.ofString "check_terms", Str.ofString "less_floor", Str.ofString "terms_of", Str.ofString "terms", Str.ofString "turn_of", Str.ofString "fraction_of", Str.ofString "root_of", Str.ofString "number_by", Str.ofString "above", Str.ofString "how_often", Str.ofString "runs", Str.ofString "moved", Str.ofString "neighbours_of", Str.ofString "behind", Str.ofString "ahead", Str.ofString "parents", Str.ofString "middle", Str.ofString "FOUR_turns", Str.ofString "is_turn", Str.ofString "check_turn", Str.ofString "line", Str.ofString "turned_by", Str.ofString "turned", Str.ofString "least_turn", Str.ofString "after", Str.ofString "_law_pot"] ++ [Str.ofString "_law_take", Str.ofString "_law_cells", Str.ofString "_law_of", Str.ofString "_law_divisor", Str.ofString "_law_fraction", Str.ofString "_law_is_less", Str.ofString "_law_swapped", Str.ofString "_law_turn", Str.ofString "_law_end", Str.ofString "_law_are_all_right", Str.ofString "_law_is_back_right", Str.ofString "_law_is_row_right", Str.ofString "_law_are_terms_right", Str.ofString "_law_right"]
theorem run (w : World) : HandSHeadRun.RunEqI R (PySem.W.view R.prog [0, 94]) hk ob 6000 loose w := by
  unfold HandSHeadRun.RunEqI
  kernel_rfl
end LawH
open PySem PySem.W PySem.Calls PyProof.Rows in
theorem law_holds (main : ∀ ns : List Int, ns.length ≤ 63 → ∃ h', MP.tab LawP.ckP (LawP.rowsP.map MP.DR.def_) 65 64 [.lst (ns.map MP.Val.int)] [] = .ok (.bl true) h') : PySem.Challenge.rw_wheelandbell_k36_whole_roads_read_from_b.Holds := by
  w_on; o_law
  refine HandSHeadRun.head_imp (r := OpenLaw.row PySem.Challenge.rw_wheelandbell_k36_whole_roads_read_from_b) (q := view (OpenLaw.row PySem.Challenge.rw_wheelandbell_k36_whole_roads_read_from_b).prog [0, 94]) (H := LawH.hk) (ob := LawH.ob) (M := 6000) (loose := LawH.loose) (d := HandSHeadRun.topDef (OpenLaw.row PySem.Challenge.rw_wheelandbell_k36_whole_roads_read_from_b).prog 94) (kwd := []) LawH.ob_eq LawH.run
    (by kernel_rfl) (by kernel_rfl) (by kernel_rfl) (by rfl) (by first | assumption | decide +kernel) (by decide +kernel) ⟨rfl, rfl, rfl, rfl, rfl, by decide +kernel⟩ ?hw ?hc
  case hw => w_witness2
  case hc =>
    refine MP.walk_ofM (l := PySem.Challenge.rw_wheelandbell_k36_whole_roads_read_from_b) (n := 63) (k := 65) (x := "script") (CX := fun w => L2.CX (PySem.Challenge.rw_wheelandbell_k36_whole_roads_read_from_b).prog w) rfl (by decide) (by kernel_rfl) ⟨rfl, by decide, by decide⟩ ?F MP.cx_no
    intro w mg fa h Y G hmg0
    obtain ⟨K, KX, c⟩ := Y
    have hmg : mg ("law" : PySem.Str) = some (.ref fa) := by
      have e : (HandSHeadRun.topDef (OpenLaw.row PySem.Challenge.rw_wheelandbell_k36_whole_roads_read_from_b).prog 94).name = ("law" : PySem.Str) := by kernel_rfl
      rw [← e]
      exact hmg0
    obtain ⟨fd, sp, hb, hs, hF⟩ := MP.law_parts (D := LawP.hdP) (P := (PySem.Challenge.rw_wheelandbell_k36_whole_roads_read_from_b).prog) (w := w) LawP.okP (n := 64) (r := LawP.r_law) rfl rfl rfl main KX G c hmg
    exact ⟨K, fd, sp, KX, hb, hs, hF⟩
set_option maxHeartbeats 4000000
set_option autoImplicit false
namespace MP
theorem bindR_ok {α β : Type} (a : α) (h : MH) (f : α → MH → Res β) : (Res.ok a h).bind f = f a h := rfl
theorem bindR_bad {α β : Type} (f : α → MH → Res β) : (Res.bad : Res α).bind f = .bad := rfl
theorem bindR_exc {α β : Type} (x : Exn) (h : MH) (f : α → MH → Res β) : (Res.exc x h : Res α).bind f = .exc x h := rfl
theorem bind_ite {α β : Type} {c : Prop} [Decidable c] (a b : Res α) (f : α → MH → Res β) : (if c then a else b).bind f = if c then a.bind f else b.bind f := by
  split <;> rfl
theorem optR_some {α : Type} (a : α) (h : MH) : opt (some a) h = .ok a h := rfl
theorem optR_none {α : Type} (h : MH) : opt (none : Option α) h = .bad := rfl
theorem opt_ite {α : Type} {c : Prop} [Decidable c] (a b : Option α) (h : MH) : opt (if c then a else b) h = if c then opt a h else opt b h := by
  split <;> rfl
theorem map_ite {α β : Type} {c : Prop} [Decidable c] (a b : Option α) (f : α → β) : (if c then a else b).map f = if c then a.map f else b.map f := by
  split <;> rfl
theorem noexc_ok {α : Type} (a : α) (h : MH) : (Res.ok a h).noexc = .ok a h := rfl
def Lt (k : Nat) (a : Int) : Prop := a.natAbs < 2 ^ k
theorem Lt.mono {k l : Nat} {a : Int} (h : Lt k a) (hl : k ≤ l) : Lt l a := Nat.lt_of_lt_of_le h (Nat.pow_le_pow_right (by omega) hl)
theorem Lt.add {k : Nat} {a b : Int} (ha : Lt k a) (hb : Lt k b) : Lt (k + 1) (a + b) := by
  unfold Lt at *
  have := Int.natAbs_add_le a b
  rw [Nat.pow_succ]; omega
theorem Lt.sub {k : Nat} {a b : Int} (ha : Lt k a) (hb : Lt k b) : Lt (k + 1) (a - b) := by
  unfold Lt at *
  rw [Nat.pow_succ]; omega
theorem Lt.neg {k : Nat} {a : Int} (ha : Lt k a) : Lt k (-a) := by
  unfold Lt at *
  rw [Int.natAbs_neg]; exact ha
theorem Lt.mul {k l : Nat} {a b : Int} (ha : Lt k a) (hb : Lt l b) : Lt (k + l) (a * b) := by
  unfold Lt at *
  rw [Int.natAbs_mul, Nat.pow_add]
  exact Nat.mul_lt_mul'' ha hb
theorem log2_lt {n k : Nat} (h : n < 2 ^ k) : n.log2 ≤ k := by
  by_cases hn : n = 0
  · subst hn; simp
  · exact Nat.le_of_lt ((Nat.log2_lt hn).mpr h)
theorem Lt.mulOk {k l : Nat} {a b : Int} (ha : Lt k a) (hb : Lt l b) (h : k + l < 1000000) : mulOk a b = true := by
  unfold MP.mulOk
  have := log2_lt ha
  have := log2_lt hb
  exact decide_eq_true (by omega)
theorem Lt.divOk {k : Nat} {a : Int} (ha : Lt k a) (h : k < 9000) (h0 : a ≠ 0) : divOk a = true := by
  unfold MP.divOk
  have := log2_lt ha
  rw [Bool.and_eq_true]
  exact ⟨decide_eq_true h0, decide_eq_true (by omega)⟩
theorem Lt.of {k : Nat} {a : Int} (h1 : -(2 ^ k : Int) < a) (h2 : a < 2 ^ k) : Lt k a := by
  unfold Lt
  have e : ((2 ^ k : Nat) : Int) = (2 : Int) ^ k := by push_cast; rfl
  rw [← e] at h1 h2
  omega
section
variable {T : Nat → Fn} {ck : List (List Ky)} {b : Bool} {η : Env} {h : MH}
theorem ev_var {i : Nat} : evE T b (.var i) η h = opt (if b then getB η i else getS η i) h := rfl
theorem ev_con {v : Val} : evE T b (.con v) η h = .ok v h := rfl
theorem ev_glob {v : Val} : evE T b (.glob v) η h = .ok v h := rfl
theorem ev_bin {op : BOp} {x y : E} : evE T b (.bin op x y) η h = (evE T true x η h).bind fun v h1 => (evE T true y η h1).bind fun w h2 => opt (binV op v w) h2 := rfl
def negR (v : Val) (h : MH) : Res Val := match v with
  | .int i => .ok (.int (-i)) h
  | _ => .bad
theorem ev_neg {x : E} : evE T b (.neg x) η h = (evE T true x η h).bind negR := rfl
theorem negR_int {i : Int} : negR (.int i) h = .ok (.int (-i)) h := rfl
theorem ev_cmp {op : COp} {x y : E} : evE T b (.cmp op x y) η h = (evE T true x η h).bind fun v h1 => (evE T true y η h1).bind fun w h2 => opt ((cmpV op v w).map .bl) h2 := rfl
theorem ev_chain {op op' : COp} {x y z : E} : evE T b (.chain op op' x y z) η h = (evE T true x η h).bind fun v h1 => (evE T true y η h1).bind fun w h2 => (opt (cmpV op v w) h2).bind fun c h3 =>
      if c then (evE T true z η h3).bind fun u h4 => opt ((cmpV op' w u).map .bl) h4 else .ok (.bl false) h3 := rfl
theorem ev_isN {x : E} : evE T b (.isN x) η h = (evE T true x η h).bind fun v h1 => .ok (.bl (isNV v)) h1 := rfl
theorem ev_notN {x : E} : evE T b (.notN x) η h = (evE T true x η h).bind fun v h1 => .ok (.bl (!isNV v)) h1 := rfl
theorem ev_band {x y : E} : evE T b (.band x y) η h = (evE T false x η h).bind fun v h1 => (opt (truthV v) h1).bind fun c h2 => if c then evE T false y η h2 else .ok v h2 := rfl
theorem ev_bor {x y : E} : evE T b (.bor x y) η h = (evE T false x η h).bind fun v h1 => (opt (truthV v) h1).bind fun c h2 => if c then .ok v h2 else evE T false y η h2 := rfl
theorem ev_bnot {x : E} : evE T b (.bnot x) η h = (evE T true x η h).bind fun v h1 => (opt (truthV v) h1).bind fun c h2 => .ok (.bl (!c)) h2 := rfl
theorem ev_ife {c x y : E} : evE T b (.ife c x y) η h = (evE T true c η h).bind fun v h1 => (opt (truthV v) h1).bind fun t h2 => if t then evE T false x η h2 else evE T false y η h2 := rfl
theorem ev_tup {es : Es} : evE T b (.tup es) η h = (evEs T es η h).bind fun vs h1 => if vs.length ≤ sz then .ok (.tup vs) h1 else .bad := rfl
theorem ev_lst {es : Es} : evE T b (.lst es) η h = (evEs T es η h).bind fun vs h1 => if vs.length ≤ sz then .ok (.lst vs) h1 else .bad := rfl
theorem ev_newObj {es : Es} : evE T b (.newObj es) η h = (evEs T es η h).bind fun vs h1 => if vs.length ≤ sz then .ok (.obj h1.length) (h1 ++ [.lst vs]) else .bad := rfl
theorem ev_sub {x i : E} : evE T b (.sub x i) η h = (evE T true x η h).bind fun v h1 => (evE T true i η h1).bind fun w h2 => opt (subV h2 v w) h2 := rfl
theorem ev_slice {x : E} {lo hi : Op} : evE T b (.sliceE x lo hi) η h = (evE T true x η h).bind fun v h1 => (evOp T lo η h1).bind fun a h2 => (evOp T hi η h2).bind fun c h3 => opt (slcV a c v) h3 := rfl
theorem ev_rev {x : E} : evE T b (.rev x) η h = (evE T true x η h).bind fun v h1 => opt (revV v) h1 := rfl
theorem ev_call {f : Nat} {es : Es} : evE T b (.call f es) η h = (evEs T es η h).bind fun vs h1 => T f vs h1 := rfl
theorem ev_blt {bl : Blt} {es : Es} : evE T b (.blt bl es) η h = (evBs T es η h).bind fun vs h1 => opt (bltV bl vs) h1 := rfl
theorem ev_meth {m : Mth} {x : E} {es : Es} : evE T b (.meth m x es) η h = (evE T true x η h).bind fun v h1 => if mthTy m v then (evBs T es η h1).bind fun vs h2 => opt (mthV m v vs) h2 else .bad := rfl
theorem ev_isinst {x : E} {t : Ty} : evE T b (.isinst x t) η h = (evE T true x η h).bind fun v h1 => opt ((isinstV v t).map .bl) h1 := rfl
def lrgR (t : Bool) (v : Val) (h : MH) : Res Val := match v with
  | .int j => if rgOk 0 j && decide (j.toNat ≤ sz) then .ok (mkL t (rngL 0 j.toNat)) h else .bad
  | _ => .bad
theorem ev_lrg {t : Bool} {x : E} : evE T b (.lrg t x) η h = (evE T true x η h).bind (lrgR t) := rfl
def lrgR2 (t : Bool) (v w : Val) (h : MH) : Res Val := match v, w with
  | .int i, .int j => if rgOk i j && decide ((j - i).toNat ≤ sz) then .ok (mkL t (rngL i (j - i).toNat)) h else .bad
  | _, _ => .bad
theorem ev_lrg2 {t : Bool} {x y : E} : evE T b (.lrg2 t x y) η h = (evE T true x η h).bind fun v h1 => (evE T true y η h1).bind fun w h2 => lrgR2 t v w h2 := rfl
theorem ev_lc {own : List Nat} {tg : Tg} {it : It} {cond : Op} {elt : E} : evE T b (.lc own tg it cond elt) η h = (evIt T true it η h).bind fun xs h1 => (mapR (turnLc T own tg cond elt η) xs h1).bind fun vs h2 => .ok (.lst vs) h2 := rfl
noncomputable def forB (T : Nat → Fn) (ck : List (List Ky)) (tg : Tg) (a : S) : Val → Env → MH → Res Fl := fun x η h => (opt (bindT η tg x) h).bind fun η' h => evS T ck a η' h
def cndB (T : Nat → Fn) (c : E) : Env → MH → Res Bool := fun η h => (evE T true c η h).bind fun v h1 => opt (truthV v) h1
theorem ev_skip : evS T ck .skip η h = .ok (.nx η) h := rfl
noncomputable def seqR (T : Nat → Fn) (ck : List (List Ky)) (b : S) (r : Fl) (h : MH) : Res Fl := match r with
  | .nx η' => evS T ck b η' h
  | r => .ok r h
theorem ev_seq {a c : S} : evS T ck (.seq a c) η h = (evS T ck a η h).bind (seqR T ck c) := rfl
theorem seqR_nx {c : S} : seqR T ck c (.nx η) h = evS T ck c η h := rfl
theorem seqR_rt {c : S} {v : Val} : seqR T ck c (.rt v) h = .ok (.rt v) h := rfl
theorem seqR_bk {c : S} : seqR T ck c (.bk η) h = .ok (.bk η) h := rfl
theorem seqR_ct {c : S} : seqR T ck c (.ct η) h = .ok (.ct η) h := rfl
theorem ev_expr {e : E} : evS T ck (.expr e) η h = (evE T true e η h).bind fun _ h1 => .ok (.nx η) h1 := rfl
theorem ev_asg {i : Nat} {r : R} : evS T ck (.asg i r) η h = (evR T r η h).bind fun s h1 => (opt (setv η i s) h1).bind fun η' h2 => .ok (.nx η') h2 := rfl
theorem ev_par {is : List Nat} {rs : List R} : evS T ck (.par is rs) η h = (evRs T rs η h).bind fun ss h1 => (opt (setvs η is ss) h1).bind fun η' h2 => .ok (.nx η') h2 := rfl
def unpR (is : List Nat) (η : Env) (v : Val) (h : MH) : Res Fl := match v with
  | .tup l => (opt (setAll η is l) h).bind fun η' h2 => .ok (.nx η') h2
  | .lst l => (opt (setAll η is l) h).bind fun η' h2 => .ok (.nx η') h2
  | _ => .bad
theorem ev_unp {is : List Nat} {e : E} : evS T ck (.unp is e) η h = (evE T false e η h).bind (unpR is η) := rfl
def setIR (ck : List (List Ky)) (η : Env) (v d k : Val) (h : MH) : Res Fl := match d with
  | .obj n => (opt ((h[n]?).bind fun o => putV ck o k v) h).bind fun o h4 => .ok (.nx η) (h4.set n o)
  | _ => .bad
theorem ev_setI {x i e : E} : evS T ck (.setI x i e) η h = (evE T false e η h).bind fun v h1 => (evE T true x η h1).bind fun d h2 => (evE T true i η h2).bind fun k h3 => setIR ck η v d k h3 := rfl
theorem ev_setO {s : Nat} {i e : E} : evS T ck (.setO s i e) η h = (evE T false e η h).bind fun v h1 => (opt (ownS η s) h1).bind fun d h1 => (evE T true i η h1).bind fun k h2 => (opt (putV ck d k v) h2).bind fun d' h3 => .ok (.nx (η.set s (.o d'))) h3 := rfl
theorem ev_app {s : Nat} {e : E} : evS T ck (.app s e) η h = (opt (ownL η s) h).bind fun l h => (evE T false e η h).bind fun v h1 => if l.length < sz then .ok (.nx (η.set s (.o (.lst (l ++ [v]))))) h1 else .bad := rfl
def extR (η : Env) (s : Nat) (l : List Val) (v : Sl) (h : MH) : Res Fl := match v with
  | .o (.lst m) => if l.length + m.length ≤ sz then .ok (.nx (η.set s (.o (.lst (l ++ m))))) h else .bad
  | _ => .bad
theorem ev_ext {s : Nat} {r : R} : evS T ck (.ext s r) η h = (opt (ownL η s) h).bind fun l h => (evR T r η h).bind (extR η s l) := rfl
theorem ev_ret {e : E} : evS T ck (.ret e) η h = (evE T false e η h).bind fun v h1 => .ok (.rt v) h1 := rfl
theorem ev_if {c : E} {a d : S} : evS T ck (.ife c a d) η h = (evE T true c η h).bind fun v h1 => (opt (truthV v) h1).bind fun t h2 => if t then evS T ck a η h2 else evS T ck d η h2 := rfl
theorem ev_whl {c : E} {a : S} : evS T ck (.whl c a) η h = whileM (cndB T c) (evS T ck a) η h := rfl
theorem ev_for {tg : Tg} {it : It} {a : S} : evS T ck (.for_ tg it a) η h = (evIt T false it η h).bind fun xs h1 => loopF (forB T ck tg a) xs η h1 := rfl
theorem ev_brk : evS T ck .brk η h = .ok (.bk η) h := rfl
theorem ev_cont : evS T ck .cont η h = .ok (.ct η) h := rfl
theorem ev_frz {is : List Nat} {a : S} : evS T ck (.frz is a) η h = evS T ck a (frz η is) h := rfl
def killR (is : List Nat) (r : Fl) (h : MH) : Res Fl := match r with
  | .nx η' => .ok (.nx (wipe η' is)) h
  | r => .ok r h
theorem ev_kill {is : List Nat} {a : S} : evS T ck (.kill is a) η h = (evS T ck a η h).bind (killR is) := rfl
theorem killR_nx {is : List Nat} : killR is (.nx η) h = .ok (.nx (wipe η is)) h := rfl
theorem killR_rt {is : List Nat} {v : Val} : killR is (.rt v) h = .ok (.rt v) h := rfl
theorem killR_bk {is : List Nat} : killR is (.bk η) h = .ok (.bk η) h := rfl
theorem ev_never : evS T ck .never η h = .bad := rfl
def endR (r : Fl) (h : MH) : Res Val := match r with
  | .rt v => .ok v h
  | .nx _ => .ok .non h
  | _ => .bad
theorem run_def {d : Def} {vs : List Val} (e : vs.length = d.np) : runD ck T d vs h = (evS T ck d.body (startS d.n vs) h).bind endR := if_pos e
theorem endR_rt {v : Val} : endR (.rt v) h = .ok v h := rfl
theorem endR_nx : endR (.nx η) h = .ok .non h := rfl
theorem loop_fold {α β : Type} {f : Val → Env → MH → Res Fl} (g : α → Env) (step : α → β → α) (val : β → Val) (hf : ∀ a b, f (val b) (g a) h = .ok (.nx (g (step a b))) h) : ∀ (xs : List β) (a : α), loopF f (xs.map val) (g a) h = .ok (.nx (g (xs.foldl step a))) h
  | [], a => rfl
  | x :: xs, a => by
    rw [List.map_cons, loopF, hf, bindR_ok]
    exact loop_fold g step val hf xs (step a x)
theorem loopW_mono {c : Env → MH → Res Bool} {f : Env → MH → Res Fl} : ∀ {n m : Nat} {η : Env} {h : MH}, loopW c f n η h ≠ .bad → n ≤ m → loopW c f m η h = loopW c f n η h
  | 0, m, η, h, hb, _ => absurd rfl hb
  | n + 1, 0, η, h, _, hl => by omega
  | n + 1, m + 1, η, h, hb, hl => by
    simp only [loopW] at hb ⊢
    cases e : c η h with
    | bad => rfl
    | exc => rfl
    | ok t h1 =>
      rw [e] at hb
      simp only [bindR_ok] at hb ⊢
      cases t with
      | false => rfl
      | true =>
        simp only [if_true] at hb ⊢
        cases e2 : f η h1 with
        | bad => rfl
        | exc => rfl
        | ok r h2 =>
          rw [e2] at hb
          simp only [bindR_ok] at hb ⊢
          cases r with
          | nx η' => exact loopW_mono hb (by omega)
          | ct η' => exact loopW_mono hb (by omega)
          | bk η' => rfl
          | rt v => rfl
theorem while_of {c : Env → MH → Res Bool} {f : Env → MH → Res Fl} {n : Nat} {η : Env} {h : MH} {r : Res Fl} (e : loopW c f n η h = r) (hr : r ≠ .bad) : whileM c f η h = r := by
  have ex : ∃ n, loopW c f n η h ≠ .bad := ⟨n, by rw [e]; exact hr⟩
  unfold whileM
  rw [dif_pos ex]
  have h1 := Classical.choose_spec ex
  rcases Nat.le_total (Classical.choose ex) n with hl | hl
  · rw [← loopW_mono h1 hl]; exact e
  · rw [loopW_mono (by rw [e]; exact hr) hl]; exact e
theorem mapR_pure {α : Type} {f : Val → MH → Res (Option Val)} (val : α → Val) (g : α → Val) : ∀ (xs : List α), (∀ x ∈ xs, f (val x) h = .ok (some (g x)) h) → mapR f (xs.map val) h = .ok (xs.map g) h
  | [], _ => rfl
  | x :: xs, hf => by
    rw [List.map_cons, mapR, hf x List.mem_cons_self, bindR_ok, mapR_pure val g xs fun y hy => hf y (List.mem_cons_of_mem _ hy)]
    rfl
theorem mapR_filter {α : Type} {f : Val → MH → Res (Option Val)} (val : α → Val) (p : α → Bool) (g : α → Val) : ∀ (xs : List α), (∀ x ∈ xs, f (val x) h = .ok (if p x then some (g x) else none) h) → mapR f (xs.map val) h = .ok ((xs.filter p).map g) h
  | [], _ => rfl
  | x :: xs, hf => by
    rw [List.map_cons, mapR, hf x List.mem_cons_self, bindR_ok, mapR_filter val p g xs fun y hy => hf y (List.mem_cons_of_mem _ hy), bindR_ok, List.filter_cons]
    cases p x <;> rfl
end
end MP
set_option maxHeartbeats 400000
set_option autoImplicit false
namespace LawP
open MP
noncomputable abbrev T (n i : Nat) : Fn := tab ckP dsP n i
theorem T_is {n i : Nat} {d : Def} (h : i < n) (e : dsP[i]? = some d) : T n i = runD ckP (T i) d := tab_def h e
theorem T_run {n i : Nat} {d : Def} {vs : List Val} {h : MH} (hn : i < n) (e : dsP[i]? = some d) (el : vs.length = d.np) : T n i vs h = (evS (T i) ckP d.body (startS d.n vs) h).bind endR := by
  rw [T_is hn e, run_def el]
abbrev fr (a b : Int) : Val := .tup [.int a, .int b]
abbrev q4 (a b c d : Int) : Val := .tup [.int a, .int b, .int c, .int d]
def sg (b : Bool) : Nat := bif b then 82 else 76
abbrev enc (t : List Bool) : Tx := t.map sg
abbrev st (t : List Bool) : Val := .str (enc t)
@[ext] structure M2 where
  p : Int
  q : Int
  r : Int
  s : Int
def M2.one : M2 := ⟨1, 0, 0, 1⟩
def M2.mul (a b : M2) : M2 := ⟨a.p * b.p + a.q * b.r, a.p * b.q + a.q * b.s, a.r * b.p + a.s * b.r, a.r * b.q + a.s * b.s⟩
def stp (m : M2) (b : Bool) : M2 := bif b then ⟨m.p, m.p + m.q, m.r, m.r + m.s⟩ else ⟨m.p + m.q, m.q, m.r + m.s, m.s⟩
def trn (t : List Bool) : M2 := t.foldl stp M2.one
theorem map_st (t : List Bool) : (enc t).map (fun c => Val.str [c]) = t.map fun b => Val.str [sg b] := by
  rw [List.map_map]; rfl
theorem body_fa (X : Sl) (h : MH) (m : M2) (b : Bool) : forB (T 0) ckP (.name 1) l1_fraction_at (Val.str [sg b]) [X, .e, .v (fr m.q m.s), .v (fr m.p m.r), .e] h = .ok (.nx [X, .e, .v (fr (stp m b).q (stp m b).s), .v (fr (stp m b).p (stp m b).r), .e]) h := by
  cases b <;> simp [-Res.bind, -List.map_map, -MP.opt, -Res.noexc, DR.def_, ev_var, ev_con, ev_glob, ev_bin, ev_neg, negR_int, ev_cmp, ev_chain, ev_isN, ev_notN, ev_band, ev_bor, ev_bnot, ev_ife, ev_tup, ev_lst, ev_newObj, ev_sub, ev_slice, ev_rev, ev_call, ev_blt, ev_meth, ev_isinst, ev_lrg, lrgR, ev_lrg2, lrgR2, ev_lc, ev_skip, ev_seq, seqR_nx, seqR_rt, seqR_bk, seqR_ct, ev_expr, ev_asg, ev_par, unpR, ev_unp, setIR, ev_setI, ev_setO, ev_app, extR, ev_ext, ev_ret, ev_if, ev_whl, ev_for, ev_brk, ev_cont, ev_frz, ev_kill, killR_nx, killR_rt, killR_bk, ev_never, endR_rt, endR_nx, evEs, evBs, evIt, evOp, evC, evR, evRs, bindR_ok, bindR_bad, bindR_exc, bind_ite, optR_some, optR_none, opt_ite, noexc_ok, startS, getB, getS, subV, subD, atI, ixN, setv, setvs, setAll, bindT, wipe, frz, ownS, ownL, truthV, cmpV, binV, isinstV, lenV, bltV, isNV, mthTy, optI, sz, forB, l1_fraction_at, sg, stp, eqo, pureLe, eqv, Int.add_comm]
theorem t_fraction_at {n : Nat} (hn : 0 < n) (t : List Bool) (hl : t.length ≤ 2000) (h : MH) : T n 0 [st t] h = .ok (fr ((trn t).p + (trn t).q) ((trn t).r + (trn t).s)) h := by
  have hs : t.length ≤ 16777216 := by omega
  have lp := loop_fold (g := fun m : M2 => [.v (st t), .e, .v (fr m.q m.s), .v (fr m.p m.r), .e]) (h := h) stp (fun b => Val.str [sg b]) (fun m b => body_fa (.v (st t)) h m b) t M2.one
  simp only [M2.one] at lp
  rw [T_run hn rfl rfl]
  simp [-Res.bind, -List.map_map, -MP.opt, -Res.noexc, DR.def_, ev_var, ev_con, ev_glob, ev_bin, ev_neg, negR_int, ev_cmp, ev_chain, ev_isN, ev_notN, ev_band, ev_bor, ev_bnot, ev_ife, ev_tup, ev_lst, ev_newObj, ev_sub, ev_slice, ev_rev, ev_call, ev_blt, ev_meth, ev_isinst, ev_lrg, lrgR, ev_lrg2, lrgR2, ev_lc, ev_skip, ev_seq, seqR_nx, seqR_rt, seqR_bk, seqR_ct, ev_expr, ev_asg, ev_par, unpR, ev_unp, setIR, ev_setI, ev_setO, ev_app, extR, ev_ext, ev_ret, ev_if, ev_whl, ev_for, ev_brk, ev_cont, ev_frz, ev_kill, killR_nx, killR_rt, killR_bk, ev_never, endR_rt, endR_nx, evEs, evBs, evIt, evOp, evC, evR, evRs, bindR_ok, bindR_bad, bindR_exc, bind_ite, optR_some, optR_none, opt_ite, noexc_ok, startS, getB, getS, subV, subD, atI, ixN, setv, setvs, setAll, bindT, wipe, frz, ownS, ownL, truthV, cmpV, binV, isinstV, lenV, bltV, isNV, mthTy, optI, sz, r_fraction_at, d_fraction_at, hs, map_st, lp, trn, M2.one, Int.add_comm]
theorem ok_sg (b : Bool) : isIn (.str [sg b]) [.str [76], .str [82]] = some true := by cases b <;> rfl
theorem t_by_road {n : Nat} (hn : 1 < n) (t : List Bool) (hl : t.length ≤ 2000) (h : MH) : T n 1 [st t] h = .ok (fr ((trn t).p + (trn t).q) ((trn t).r + (trn t).s)) h := by
  have hs : t.length ≤ 16777216 := by omega
  have hl' : ¬ (2000 : Int) < t.length := by omega
  have mp : ∀ (η : Env), η = [.v (st t), .e] → mapR (turnLc (T 1) [1] (.name 1) .no (.cmp .isin (.var 1) (.tup (.cons (.glob (.str [76])) (.cons (.glob (.str [82])) .nil)))) η) (t.map fun b => Val.str [sg b]) h = .ok (t.map fun _ => Val.bl true) h := fun η e => by
    subst e
    refine mapR_pure (fun b => Val.str [sg b]) (fun _ => .bl true) t fun b _ => ?_
    simp [-Res.bind, -List.map_map, -MP.opt, -Res.noexc, DR.def_, ev_var, ev_con, ev_glob, ev_bin, ev_neg, negR_int, ev_cmp, ev_chain, ev_isN, ev_notN, ev_band, ev_bor, ev_bnot, ev_ife, ev_tup, ev_lst, ev_newObj, ev_sub, ev_slice, ev_rev, ev_call, ev_blt, ev_meth, ev_isinst, ev_lrg, lrgR, ev_lrg2, lrgR2, ev_lc, ev_skip, ev_seq, seqR_nx, seqR_rt, seqR_bk, seqR_ct, ev_expr, ev_asg, ev_par, unpR, ev_unp, setIR, ev_setI, ev_setO, ev_app, extR, ev_ext, ev_ret, ev_if, ev_whl, ev_for, ev_brk, ev_cont, ev_frz, ev_kill, killR_nx, killR_rt, killR_bk, ev_never, endR_rt, endR_nx, evEs, evBs, evIt, evOp, evC, evR, evRs, bindR_ok, bindR_bad, bindR_exc, bind_ite, optR_some, optR_none, opt_ite, noexc_ok, startS, getB, getS, subV, subD, atI, ixN, setv, setvs, setAll, bindT, wipe, frz, ownS, ownL, truthV, cmpV, binV, isinstV, lenV, bltV, isNV, mthTy, optI, sz, turnLc, isInT, flatv, ok_sg]
  have ab : ∀ l : List Bool, boolsOf (l.map fun _ => Val.bl true) = some (l.map fun _ => true) := by
    intro l
    induction l with
    | nil => rfl
    | cons a l ih => simp [boolsOf, ih]
  rw [T_run hn rfl rfl]
  simp [-Res.bind, -List.map_map, -MP.opt, -Res.noexc, DR.def_, ev_var, ev_con, ev_glob, ev_bin, ev_neg, negR_int, ev_cmp, ev_chain, ev_isN, ev_notN, ev_band, ev_bor, ev_bnot, ev_ife, ev_tup, ev_lst, ev_newObj, ev_sub, ev_slice, ev_rev, ev_call, ev_blt, ev_meth, ev_isinst, ev_lrg, lrgR, ev_lrg2, lrgR2, ev_lc, ev_skip, ev_seq, seqR_nx, seqR_rt, seqR_bk, seqR_ct, ev_expr, ev_asg, ev_par, unpR, ev_unp, setIR, ev_setI, ev_setO, ev_app, extR, ev_ext, ev_ret, ev_if, ev_whl, ev_for, ev_brk, ev_cont, ev_frz, ev_kill, killR_nx, killR_rt, killR_bk, ev_never, endR_rt, endR_nx, evEs, evBs, evIt, evOp, evC, evR, evRs, bindR_ok, bindR_bad, bindR_exc, bind_ite, optR_some, optR_none, opt_ite, noexc_ok, startS, getB, getS, subV, subD, atI, ixN, setv, setvs, setAll, bindT, wipe, frz, ownS, ownL, truthV, cmpV, binV, isinstV, lenV, bltV, isNV, mthTy, optI, sz, r_by_road, d_by_road, hs, hl', map_st, mp _ rfl, ab, t_fraction_at _ t hl]
end LawP
set_option maxHeartbeats 1000000
set_option autoImplicit false
namespace LawP
open MP
theorem M2.mul_assoc (a b c : M2) : (a.mul b).mul c = a.mul (b.mul c) := by
  simp only [M2.mul, M2.mk.injEq]
  refine ⟨?_, ?_, ?_, ?_⟩ <;> simp only [Int.add_mul, Int.mul_add, Int.mul_assoc] <;> omega
theorem M2.one_mul (a : M2) : M2.one.mul a = a := by
  cases a; simp [M2.mul, M2.one]
theorem M2.mul_one (a : M2) : a.mul M2.one = a := by
  cases a; simp [M2.mul, M2.one]
def gen (b : Bool) : M2 := bif b then ⟨1, 1, 0, 1⟩ else ⟨1, 0, 1, 1⟩
theorem stp_gen (m : M2) (b : Bool) : stp m b = m.mul (gen b) := by
  cases m; cases b <;> simp [stp, gen, M2.mul]
theorem fold_stp : ∀ (t : List Bool) (m : M2), t.foldl stp m = m.mul (trn t)
  | [], m => by simp [trn, M2.mul_one]
  | b :: t, m => by
    unfold trn
    rw [List.foldl_cons, List.foldl_cons, fold_stp t, fold_stp t, stp_gen, stp_gen, M2.one_mul, M2.mul_assoc]
theorem trn_nil : trn [] = M2.one := rfl
theorem trn_cons (b : Bool) (t : List Bool) : trn (b :: t) = (gen b).mul (trn t) := by
  unfold trn
  rw [List.foldl_cons, fold_stp, stp_gen, M2.one_mul]; rfl
theorem trn_append : ∀ s t : List Bool, trn (s ++ t) = (trn s).mul (trn t)
  | [], t => by rw [List.nil_append, trn_nil, M2.one_mul]
  | b :: s, t => by rw [List.cons_append, trn_cons, trn_append s t, trn_cons, M2.mul_assoc]
def M2.det (m : M2) : Int := m.p * m.s - m.q * m.r
theorem det_mul (a b : M2) : (a.mul b).det = a.det * b.det := by
  simp only [M2.det, M2.mul, Int.sub_mul, Int.mul_sub, Int.add_mul, Int.mul_add]
  have e1 : a.p * b.p * (a.r * b.q) = a.q * b.s * (a.r * b.q) + a.p * b.p * (a.r * b.q) - a.q * b.s * (a.r * b.q) := by omega
  simp only [Int.mul_assoc, Int.mul_comm, Int.mul_left_comm]
  omega
theorem det_trn : ∀ t : List Bool, (trn t).det = 1
  | [] => rfl
  | b :: t => by
    rw [trn_cons, det_mul, det_trn t]
    cases b <;> rfl
structure Pos2 (m : M2) (k : Nat) : Prop where
  p1 : 1 ≤ m.p
  q0 : 0 ≤ m.q
  r0 : 0 ≤ m.r
  s1 : 1 ≤ m.s
  pq : m.p + m.q ≤ 2 ^ k
  rs : m.r + m.s ≤ 2 ^ k
  pr : m.p + m.r ≤ 2 ^ k
  qs : m.q + m.s ≤ 2 ^ k
theorem pos_trn : ∀ t : List Bool, Pos2 (trn t) t.length
  | [] => ⟨by decide, by decide, by decide, by decide, by decide, by decide, by decide, by decide⟩
  | b :: t => by
    have h := pos_trn t
    obtain ⟨h1, h2, h3, h4, h5, h6, h7, h8⟩ := h
    rw [trn_cons, List.length_cons]
    cases b <;> simp only [gen, M2.mul, cond_true, cond_false] <;> refine ⟨?_, ?_, ?_, ?_, ?_, ?_, ?_, ?_⟩ <;> simp only [Int.pow_succ, Int.one_mul, Int.zero_mul] <;> omega
abbrev top (t : List Bool) : Int := (trn t).p + (trn t).q
abbrev low (t : List Bool) : Int := (trn t).r + (trn t).s
theorem top_pos (t : List Bool) : 1 ≤ top t := by have := pos_trn t; have := this.p1; have := (pos_trn t).q0; simp only [top]; omega
theorem low_pos (t : List Bool) : 1 ≤ low t := by have := (pos_trn t).s1; have := (pos_trn t).r0; simp only [low]; omega
theorem top_le (t : List Bool) : top t ≤ 2 ^ t.length := (pos_trn t).pq
theorem low_le (t : List Bool) : low t ≤ 2 ^ t.length := (pos_trn t).rs
theorem gcd_one_of {x y u v : Int} (h : x * u + y * v = 1) : Nat.gcd x.natAbs y.natAbs = 1 := by
  have h1 : ((Int.gcd x y : Nat) : Int) ∣ x := Int.gcd_dvd_left ..
  have h2 : ((Int.gcd x y : Nat) : Int) ∣ y := Int.gcd_dvd_right ..
  have h3 : ((Int.gcd x y : Nat) : Int) ∣ 1 := by
    rw [← h]
    exact Int.dvd_add (Int.dvd_trans h1 (Int.dvd_mul_right ..)) (Int.dvd_trans h2 (Int.dvd_mul_right ..))
  have h4 := Int.eq_one_of_dvd_one (by omega) h3
  have h5 : Int.gcd x y = 1 := by omega
  exact h5
theorem cop (t : List Bool) : Nat.gcd (top t).natAbs (low t).natAbs = 1 := by
  have d := det_trn t
  refine gcd_one_of (u := (trn t).s) (v := -(trn t).q) ?_
  simp only [M2.det] at d
  simp only [top, low, Int.add_mul, Int.mul_neg]
  have e1 := Int.mul_comm (trn t).r (trn t).q
  have e2 := Int.mul_comm (trn t).s (trn t).q
  omega
theorem top_cons (b : Bool) (t : List Bool) : top (b :: t) = (bif b then top t + low t else top t) ∧ low (b :: t) = (bif b then low t else top t + low t) := by
  simp only [top, low, trn_cons]
  cases b <;> simp only [gen, M2.mul, cond_true, cond_false] <;> constructor <;> simp only [Int.one_mul, Int.zero_mul] <;> omega
theorem top_rep (b : Bool) : ∀ (k : Nat) (t : List Bool), top (List.replicate k b ++ t) = (bif b then top t + k * low t else top t) ∧ low (List.replicate k b ++ t) = (bif b then low t else low t + k * top t)
  | 0, t => by cases b <;> simp
  | k + 1, t => by
    obtain ⟨h1, h2⟩ := top_rep b k t
    obtain ⟨h3, h4⟩ := top_cons b (List.replicate k b ++ t)
    rw [List.replicate_succ, List.cons_append, h3, h4, h1, h2]
    cases b <;> simp only [cond_true, cond_false, Int.natCast_add, Int.add_mul, Int.natCast_one, Int.one_mul] <;> constructor <;> first | rfl | trivial | omega
theorem split_run (c : Bool) : ∀ t : List Bool, ∃ k s, c :: t = List.replicate (k + 1) c ++ s ∧ (s = [] ∨ ∃ s', s = (!c) :: s')
  | [] => ⟨0, [], rfl, .inl rfl⟩
  | b :: t => by
    by_cases h : b = c
    · subst h
      obtain ⟨k, s, e, hs⟩ := split_run b t
      exact ⟨k + 1, s, by rw [e]; rfl, hs⟩
    · refine ⟨0, b :: t, rfl, .inr ⟨t, ?_⟩⟩
      cases b <;> cases c <;> simp_all
end LawP
set_option maxHeartbeats 400000
set_option autoImplicit false
namespace LawP
open MP
abbrev Sm (x : Int) : Prop := Lt 4000 x
theorem Sm.m {x y : Int} (hx : Sm x) (hy : Sm y) : mulOk x y = true := hx.mulOk hy (by omega)
theorem Sm.d {x : Int} (hx : Sm x) (h : x ≠ 0) : divOk x = true := hx.divOk (by omega) h
theorem Sm.zero : Sm 0 := by unfold Sm Lt; exact Nat.pow_pos (by omega)
theorem Sm.one : Sm 1 := Lt.mono (k := 1) (show (1 : Int).natAbs < 2 ^ 1 by decide) (by omega)
abbrev gc (a b : Int) : Int := (Nat.gcd a.natAbs b.natAbs : Nat)
abbrev rn (a b : Int) : Val := q4 a 0 b 0
theorem gc_sm {a b : Int} (hb : Sm b) (h0 : b ≠ 0) : Sm (gc a b) := by
  unfold Sm Lt at *
  have : Nat.gcd a.natAbs b.natAbs ≤ b.natAbs := Nat.gcd_le_right _ (by omega)
  simp only [gc, Int.natAbs_natCast]
  omega
theorem gc_ne {a b : Int} (h0 : b ≠ 0) : gc a b ≠ 0 := by
  have : 0 < Nat.gcd a.natAbs b.natAbs := Nat.gcd_pos_of_pos_right _ (by omega)
  simp only [gc]; omega
theorem gcd_zero' (a : Int) : Nat.gcd a.natAbs 0 = a.natAbs := Nat.gcd_zero_right _
def eul : Nat → Int → Int → Int
  | 0, a, _ => a
  | n + 1, a, b => if b = 0 then a else eul n b (a.fmod b)
theorem loop_div (h : MH) : ∀ (xs : List Val) (a b : Int), ∃ Y Z, loopF (forB (T 2) ckP (.name 2) l1__law_divisor) xs [.v (.int a), .v (.int b), .e] h = .ok (.nx [.v (.int (eul xs.length a b)), Y, Z]) h
  | [], a, b => ⟨_, _, rfl⟩
  | x :: xs, a, b => by
    by_cases hb : b = 0
    · subst hb
      have e : forB (T 2) ckP (.name 2) l1__law_divisor x [.v (.int a), .v (.int 0), .e] h = .ok (.bk [.v (.int a), .v (.int 0), .v x]) h := by
        simp [-Res.bind, -List.map_map, -MP.opt, -Res.noexc, DR.def_, ev_var, ev_con, ev_glob, ev_bin, ev_neg, negR_int, ev_cmp, ev_chain, ev_isN, ev_notN, ev_band, ev_bor, ev_bnot, ev_ife, ev_tup, ev_lst, ev_newObj, ev_sub, ev_slice, ev_rev, ev_call, ev_blt, ev_meth, ev_isinst, ev_lrg, lrgR, ev_lrg2, lrgR2, ev_lc, ev_skip, ev_seq, seqR_nx, seqR_rt, seqR_bk, seqR_ct, ev_expr, ev_asg, ev_par, unpR, ev_unp, setIR, ev_setI, ev_setO, ev_app, extR, ev_ext, ev_ret, ev_if, ev_whl, ev_for, ev_brk, ev_cont, ev_frz, ev_kill, killR_nx, killR_rt, killR_bk, ev_never, endR_rt, endR_nx, evEs, evBs, evIt, evOp, evC, evR, evRs, bindR_ok, bindR_bad, bindR_exc, bind_ite, optR_some, optR_none, opt_ite, noexc_ok, startS, getB, getS, subV, subD, atI, ixN, setv, setvs, setAll, bindT, wipe, frz, ownS, ownL, truthV, cmpV, binV, isinstV, lenV, bltV, isNV, mthTy, optI, sz, forB, l1__law_divisor, eqo, pureLe, eqv]
      refine ⟨.v (.int 0), .v x, ?_⟩
      rw [loopF, e]; simp [bindR_ok, eul, -Res.bind]
    · have e : forB (T 2) ckP (.name 2) l1__law_divisor x [.v (.int a), .v (.int b), .e] h = .ok (.nx [.v (.int b), .v (.int (a.fmod b)), .e]) h := by
        simp [-Res.bind, -List.map_map, -MP.opt, -Res.noexc, DR.def_, ev_var, ev_con, ev_glob, ev_bin, ev_neg, negR_int, ev_cmp, ev_chain, ev_isN, ev_notN, ev_band, ev_bor, ev_bnot, ev_ife, ev_tup, ev_lst, ev_newObj, ev_sub, ev_slice, ev_rev, ev_call, ev_blt, ev_meth, ev_isinst, ev_lrg, lrgR, ev_lrg2, lrgR2, ev_lc, ev_skip, ev_seq, seqR_nx, seqR_rt, seqR_bk, seqR_ct, ev_expr, ev_asg, ev_par, unpR, ev_unp, setIR, ev_setI, ev_setO, ev_app, extR, ev_ext, ev_ret, ev_if, ev_whl, ev_for, ev_brk, ev_cont, ev_frz, ev_kill, killR_nx, killR_rt, killR_bk, ev_never, endR_rt, endR_nx, evEs, evBs, evIt, evOp, evC, evR, evRs, bindR_ok, bindR_bad, bindR_exc, bind_ite, optR_some, optR_none, opt_ite, noexc_ok, startS, getB, getS, subV, subD, atI, ixN, setv, setvs, setAll, bindT, wipe, frz, ownS, ownL, truthV, cmpV, binV, isinstV, lenV, bltV, isNV, mthTy, optI, sz, forB, l1__law_divisor, eqo, pureLe, eqv, hb]
      obtain ⟨Y, Z, ih⟩ := loop_div h xs b (a.fmod b)
      refine ⟨Y, Z, ?_⟩
      rw [loopF, e, bindR_ok]
      simp only [List.length_cons, eul, if_neg hb]
      exact ih
theorem t_divisor {n : Nat} (hn : 2 < n) (a b : Int) (h : MH) : T n 2 [.int a, .int b] h = .ok (.int (eul 4000 a b)) h := by
  obtain ⟨Y, Z, lp⟩ := loop_div h (rngL 0 4000) a b
  rw [rngL_len] at lp
  rw [T_run hn rfl rfl]
  simp [-Res.bind, -List.map_map, -MP.opt, -Res.noexc, DR.def_, ev_var, ev_con, ev_glob, ev_bin, ev_neg, negR_int, ev_cmp, ev_chain, ev_isN, ev_notN, ev_band, ev_bor, ev_bnot, ev_ife, ev_tup, ev_lst, ev_newObj, ev_sub, ev_slice, ev_rev, ev_call, ev_blt, ev_meth, ev_isinst, ev_lrg, lrgR, ev_lrg2, lrgR2, ev_lc, ev_skip, ev_seq, seqR_nx, seqR_rt, seqR_bk, seqR_ct, ev_expr, ev_asg, ev_par, unpR, ev_unp, setIR, ev_setI, ev_setO, ev_app, extR, ev_ext, ev_ret, ev_if, ev_whl, ev_for, ev_brk, ev_cont, ev_frz, ev_kill, killR_nx, killR_rt, killR_bk, ev_never, endR_rt, endR_nx, evEs, evBs, evIt, evOp, evC, evR, evRs, bindR_ok, bindR_bad, bindR_exc, bind_ite, optR_some, optR_none, opt_ite, noexc_ok, startS, getB, getS, subV, subD, atI, ixN, setv, setvs, setAll, bindT, wipe, frz, ownS, ownL, truthV, cmpV, binV, isinstV, lenV, bltV, isNV, mthTy, optI, sz, r__law_divisor, d__law_divisor, rgOk, lp]
theorem t_fraction {n : Nat} (hn : 3 < n) (a b : Int) (h : MH) (hg : divOk (eul 4000 a b) = true) : T n 3 [.int a, .int b] h = .ok (fr (a.fdiv (eul 4000 a b)) (b.fdiv (eul 4000 a b))) h := by
  rw [T_run hn rfl rfl]
  simp [-Res.bind, -List.map_map, -MP.opt, -Res.noexc, DR.def_, ev_var, ev_con, ev_glob, ev_bin, ev_neg, negR_int, ev_cmp, ev_chain, ev_isN, ev_notN, ev_band, ev_bor, ev_bnot, ev_ife, ev_tup, ev_lst, ev_newObj, ev_sub, ev_slice, ev_rev, ev_call, ev_blt, ev_meth, ev_isinst, ev_lrg, lrgR, ev_lrg2, lrgR2, ev_lc, ev_skip, ev_seq, seqR_nx, seqR_rt, seqR_bk, seqR_ct, ev_expr, ev_asg, ev_par, unpR, ev_unp, setIR, ev_setI, ev_setO, ev_app, extR, ev_ext, ev_ret, ev_if, ev_whl, ev_for, ev_brk, ev_cont, ev_frz, ev_kill, killR_nx, killR_rt, killR_bk, ev_never, endR_rt, endR_nx, evEs, evBs, evIt, evOp, evC, evR, evRs, bindR_ok, bindR_bad, bindR_exc, bind_ite, optR_some, optR_none, opt_ite, noexc_ok, startS, getB, getS, subV, subD, atI, ixN, setv, setvs, setAll, bindT, wipe, frz, ownS, ownL, truthV, cmpV, binV, isinstV, lenV, bltV, isNV, mthTy, optI, sz, r__law_fraction, d__law_fraction, t_divisor, hg]
theorem t_is_integer {n : Nat} (hn : 4 < n) (i : Int) (h : MH) : T n 4 [.int i] h = .ok (.bl true) h := by
  rw [T_run hn rfl rfl]; rfl
theorem t_is_fraction {n : Nat} (hn : 5 < n) (a b : Int) (h : MH) (h1 : 1 ≤ b) (h2 : gc a b = 1) : T n 5 [fr a b] h = .ok (.bl true) h := by
  have h2' : Nat.gcd a.natAbs b.natAbs = 1 := by simp only [gc] at h2; omega
  rw [T_run hn rfl rfl]
  simp [-Res.bind, -List.map_map, -MP.opt, -Res.noexc, DR.def_, ev_var, ev_con, ev_glob, ev_bin, ev_neg, negR_int, ev_cmp, ev_chain, ev_isN, ev_notN, ev_band, ev_bor, ev_bnot, ev_ife, ev_tup, ev_lst, ev_newObj, ev_sub, ev_slice, ev_rev, ev_call, ev_blt, ev_meth, ev_isinst, ev_lrg, lrgR, ev_lrg2, lrgR2, ev_lc, ev_skip, ev_seq, seqR_nx, seqR_rt, seqR_bk, seqR_ct, ev_expr, ev_asg, ev_par, unpR, ev_unp, setIR, ev_setI, ev_setO, ev_app, extR, ev_ext, ev_ret, ev_if, ev_whl, ev_for, ev_brk, ev_cont, ev_frz, ev_kill, killR_nx, killR_rt, killR_bk, ev_never, endR_rt, endR_nx, evEs, evBs, evIt, evOp, evC, evR, evRs, bindR_ok, bindR_bad, bindR_exc, bind_ite, optR_some, optR_none, opt_ite, noexc_ok, startS, getB, getS, subV, subD, atI, ixN, setv, setvs, setAll, bindT, wipe, frz, ownS, ownL, truthV, cmpV, binV, isinstV, lenV, bltV, isNV, mthTy, optI, sz, r_is_fraction, d_is_fraction, mapR, turnLc, t_is_integer, boolsOf, eqo, pureLe, eqv, h1, h2']
theorem t_check_fraction {n : Nat} (hn : 6 < n) (a b : Int) (h : MH) (h1 : 1 ≤ b) (h2 : gc a b = 1) : T n 6 [fr a b] h = .ok .non h := by
  rw [T_run hn rfl rfl]
  simp [-Res.bind, -List.map_map, -MP.opt, -Res.noexc, DR.def_, ev_var, ev_con, ev_glob, ev_bin, ev_neg, negR_int, ev_cmp, ev_chain, ev_isN, ev_notN, ev_band, ev_bor, ev_bnot, ev_ife, ev_tup, ev_lst, ev_newObj, ev_sub, ev_slice, ev_rev, ev_call, ev_blt, ev_meth, ev_isinst, ev_lrg, lrgR, ev_lrg2, lrgR2, ev_lc, ev_skip, ev_seq, seqR_nx, seqR_rt, seqR_bk, seqR_ct, ev_expr, ev_asg, ev_par, unpR, ev_unp, setIR, ev_setI, ev_setO, ev_app, extR, ev_ext, ev_ret, ev_if, ev_whl, ev_for, ev_brk, ev_cont, ev_frz, ev_kill, killR_nx, killR_rt, killR_bk, ev_never, endR_rt, endR_nx, evEs, evBs, evIt, evOp, evC, evR, evRs, bindR_ok, bindR_bad, bindR_exc, bind_ite, optR_some, optR_none, opt_ite, noexc_ok, startS, getB, getS, subV, subD, atI, ixN, setv, setvs, setAll, bindT, wipe, frz, ownS, ownL, truthV, cmpV, binV, isinstV, lenV, bltV, isNV, mthTy, optI, sz, r_check_fraction, d_check_fraction, t_is_fraction _ a b h h1 h2]
theorem t_check_above {n : Nat} (hn : 7 < n) (a b : Int) (h : MH) (h0 : 1 ≤ a) (h1 : 1 ≤ b) (h2 : gc a b = 1) : T n 7 [fr a b] h = .ok .non h := by
  have : ¬ a < 1 := by omega
  rw [T_run hn rfl rfl]
  simp [-Res.bind, -List.map_map, -MP.opt, -Res.noexc, DR.def_, ev_var, ev_con, ev_glob, ev_bin, ev_neg, negR_int, ev_cmp, ev_chain, ev_isN, ev_notN, ev_band, ev_bor, ev_bnot, ev_ife, ev_tup, ev_lst, ev_newObj, ev_sub, ev_slice, ev_rev, ev_call, ev_blt, ev_meth, ev_isinst, ev_lrg, lrgR, ev_lrg2, lrgR2, ev_lc, ev_skip, ev_seq, seqR_nx, seqR_rt, seqR_bk, seqR_ct, ev_expr, ev_asg, ev_par, unpR, ev_unp, setIR, ev_setI, ev_setO, ev_app, extR, ev_ext, ev_ret, ev_if, ev_whl, ev_for, ev_brk, ev_cont, ev_frz, ev_kill, killR_nx, killR_rt, killR_bk, ev_never, endR_rt, endR_nx, evEs, evBs, evIt, evOp, evC, evR, evRs, bindR_ok, bindR_bad, bindR_exc, bind_ite, optR_some, optR_none, opt_ite, noexc_ok, startS, getB, getS, subV, subD, atI, ixN, setv, setvs, setAll, bindT, wipe, frz, ownS, ownL, truthV, cmpV, binV, isinstV, lenV, bltV, isNV, mthTy, optI, sz, r_check_above, d_check_above, t_check_fraction _ a b h h1 h2, this]
theorem t_is_less {n : Nat} (hn : 13 < n) (a b c d : Int) (h : MH) (h1 : mulOk a d = true) (h2 : mulOk c b = true) : T n 13 [fr a b, fr c d] h = .ok (.bl (decide (a * d < c * b))) h := by
  rw [T_run hn rfl rfl]
  simp [-Res.bind, -List.map_map, -MP.opt, -Res.noexc, DR.def_, ev_var, ev_con, ev_glob, ev_bin, ev_neg, negR_int, ev_cmp, ev_chain, ev_isN, ev_notN, ev_band, ev_bor, ev_bnot, ev_ife, ev_tup, ev_lst, ev_newObj, ev_sub, ev_slice, ev_rev, ev_call, ev_blt, ev_meth, ev_isinst, ev_lrg, lrgR, ev_lrg2, lrgR2, ev_lc, ev_skip, ev_seq, seqR_nx, seqR_rt, seqR_bk, seqR_ct, ev_expr, ev_asg, ev_par, unpR, ev_unp, setIR, ev_setI, ev_setO, ev_app, extR, ev_ext, ev_ret, ev_if, ev_whl, ev_for, ev_brk, ev_cont, ev_frz, ev_kill, killR_nx, killR_rt, killR_bk, ev_never, endR_rt, endR_nx, evEs, evBs, evIt, evOp, evC, evR, evRs, bindR_ok, bindR_bad, bindR_exc, bind_ite, optR_some, optR_none, opt_ite, noexc_ok, startS, getB, getS, subV, subD, atI, ixN, setv, setvs, setAll, bindT, wipe, frz, ownS, ownL, truthV, cmpV, binV, isinstV, lenV, bltV, isNV, mthTy, optI, sz, r__law_is_less, d__law_is_less, h1, h2]
theorem t_least_form {n : Nat} (hn : 27 < n) (a c : Int) (h : MH) (hc : 0 < c) (sc : Sm c) : T n 27 [.int a, .int 0, .int c, .int 0] h = .ok (rn (a.fdiv (gc a c)) (c.fdiv (gc a c))) h := by
  have g1 := Sm.d (gc_sm (a := a) sc (by omega)) (gc_ne (by omega))
  simp only [gc] at g1
  rw [T_run hn rfl rfl]
  simp [-Res.bind, -List.map_map, -MP.opt, -Res.noexc, DR.def_, ev_var, ev_con, ev_glob, ev_bin, ev_neg, negR_int, ev_cmp, ev_chain, ev_isN, ev_notN, ev_band, ev_bor, ev_bnot, ev_ife, ev_tup, ev_lst, ev_newObj, ev_sub, ev_slice, ev_rev, ev_call, ev_blt, ev_meth, ev_isinst, ev_lrg, lrgR, ev_lrg2, lrgR2, ev_lc, ev_skip, ev_seq, seqR_nx, seqR_rt, seqR_bk, seqR_ct, ev_expr, ev_asg, ev_par, unpR, ev_unp, setIR, ev_setI, ev_setO, ev_app, extR, ev_ext, ev_ret, ev_if, ev_whl, ev_for, ev_brk, ev_cont, ev_frz, ev_kill, killR_nx, killR_rt, killR_bk, ev_never, endR_rt, endR_nx, evEs, evBs, evIt, evOp, evC, evR, evRs, bindR_ok, bindR_bad, bindR_exc, bind_ite, optR_some, optR_none, opt_ite, noexc_ok, startS, getB, getS, subV, subD, atI, ixN, setv, setvs, setAll, bindT, wipe, frz, ownS, ownL, truthV, cmpV, binV, isinstV, lenV, bltV, isNV, mthTy, optI, sz, r_least_form, d_least_form, eqo, pureLe, eqv, hc, g1]
theorem t_summed {n : Nat} (hn : 28 < n) (a b c d : Int) (h : MH) (ha : Sm a) (hb : Sm b) (hc : Sm c) (hd : Sm d) (hp : 0 < b * d) (hs : Sm (b * d)) : T n 28 [rn a b, rn c d] h = .ok (rn ((a * d + c * b).fdiv (gc (a * d + c * b) (b * d))) ((b * d).fdiv (gc (a * d + c * b) (b * d)))) h := by
  rw [T_run hn rfl rfl]
  simp [-Res.bind, -List.map_map, -MP.opt, -Res.noexc, DR.def_, ev_var, ev_con, ev_glob, ev_bin, ev_neg, negR_int, ev_cmp, ev_chain, ev_isN, ev_notN, ev_band, ev_bor, ev_bnot, ev_ife, ev_tup, ev_lst, ev_newObj, ev_sub, ev_slice, ev_rev, ev_call, ev_blt, ev_meth, ev_isinst, ev_lrg, lrgR, ev_lrg2, lrgR2, ev_lc, ev_skip, ev_seq, seqR_nx, seqR_rt, seqR_bk, seqR_ct, ev_expr, ev_asg, ev_par, unpR, ev_unp, setIR, ev_setI, ev_setO, ev_app, extR, ev_ext, ev_ret, ev_if, ev_whl, ev_for, ev_brk, ev_cont, ev_frz, ev_kill, killR_nx, killR_rt, killR_bk, ev_never, endR_rt, endR_nx, evEs, evBs, evIt, evOp, evC, evR, evRs, bindR_ok, bindR_bad, bindR_exc, bind_ite, optR_some, optR_none, opt_ite, noexc_ok, startS, getB, getS, subV, subD, atI, ixN, setv, setvs, setAll, bindT, wipe, frz, ownS, ownL, truthV, cmpV, binV, isinstV, lenV, bltV, isNV, mthTy, optI, sz, r_summed, d_summed, Sm.m ha hd, Sm.m hc hb, Sm.m hb hd, Sm.m Sm.zero hd, Sm.m Sm.zero hb, t_least_form _ _ _ h hp hs]
theorem t_many_times {n : Nat} (hn : 29 < n) (a b m : Int) (h : MH) (ha : Sm a) (hb : Sm b) (hm : Sm m) (hp : 0 < b) : T n 29 [rn a b, .int m] h = .ok (rn ((a * m).fdiv (gc (a * m) b)) (b.fdiv (gc (a * m) b))) h := by
  rw [T_run hn rfl rfl]
  simp [-Res.bind, -List.map_map, -MP.opt, -Res.noexc, DR.def_, ev_var, ev_con, ev_glob, ev_bin, ev_neg, negR_int, ev_cmp, ev_chain, ev_isN, ev_notN, ev_band, ev_bor, ev_bnot, ev_ife, ev_tup, ev_lst, ev_newObj, ev_sub, ev_slice, ev_rev, ev_call, ev_blt, ev_meth, ev_isinst, ev_lrg, lrgR, ev_lrg2, lrgR2, ev_lc, ev_skip, ev_seq, seqR_nx, seqR_rt, seqR_bk, seqR_ct, ev_expr, ev_asg, ev_par, unpR, ev_unp, setIR, ev_setI, ev_setO, ev_app, extR, ev_ext, ev_ret, ev_if, ev_whl, ev_for, ev_brk, ev_cont, ev_frz, ev_kill, killR_nx, killR_rt, killR_bk, ev_never, endR_rt, endR_nx, evEs, evBs, evIt, evOp, evC, evR, evRs, bindR_ok, bindR_bad, bindR_exc, bind_ite, optR_some, optR_none, opt_ite, noexc_ok, startS, getB, getS, subV, subD, atI, ixN, setv, setvs, setAll, bindT, wipe, frz, ownS, ownL, truthV, cmpV, binV, isinstV, lenV, bltV, isNV, mthTy, optI, sz, r_many_times, d_many_times, Sm.m ha hm, Sm.m Sm.zero hm, t_least_form _ _ _ h hp hb]
theorem t_multiplied {n : Nat} (hn : 31 < n) (a b c d : Int) (h : MH) (ha : Sm a) (hb : Sm b) (hc : Sm c) (hd : Sm d) (hp : 0 < b * d) (hs : Sm (b * d)) : T n 31 [rn a b, rn c d] h = .ok (rn ((a * c).fdiv (gc (a * c) (b * d))) ((b * d).fdiv (gc (a * c) (b * d)))) h := by
  rw [T_run hn rfl rfl]
  simp [-Res.bind, -List.map_map, -MP.opt, -Res.noexc, DR.def_, ev_var, ev_con, ev_glob, ev_bin, ev_neg, negR_int, ev_cmp, ev_chain, ev_isN, ev_notN, ev_band, ev_bor, ev_bnot, ev_ife, ev_tup, ev_lst, ev_newObj, ev_sub, ev_slice, ev_rev, ev_call, ev_blt, ev_meth, ev_isinst, ev_lrg, lrgR, ev_lrg2, lrgR2, ev_lc, ev_skip, ev_seq, seqR_nx, seqR_rt, seqR_bk, seqR_ct, ev_expr, ev_asg, ev_par, unpR, ev_unp, setIR, ev_setI, ev_setO, ev_app, extR, ev_ext, ev_ret, ev_if, ev_whl, ev_for, ev_brk, ev_cont, ev_frz, ev_kill, killR_nx, killR_rt, killR_bk, ev_never, endR_rt, endR_nx, evEs, evBs, evIt, evOp, evC, evR, evRs, bindR_ok, bindR_bad, bindR_exc, bind_ite, optR_some, optR_none, opt_ite, noexc_ok, startS, getB, getS, subV, subD, atI, ixN, setv, setvs, setAll, bindT, wipe, frz, ownS, ownL, truthV, cmpV, binV, isinstV, lenV, bltV, isNV, mthTy, optI, sz, r_multiplied, d_multiplied, Sm.m ha hc, Sm.m hb hd, Sm.m Sm.zero hc, Sm.m ha Sm.zero, Sm.m Sm.zero Sm.zero, t_least_form _ _ _ h hp hs]
theorem t_inverted {n : Nat} (hn : 32 < n) (a b : Int) (h : MH) (ha : Sm a) (hb : Sm b) (hp : 0 < a * a) (hs : Sm (a * a)) : T n 32 [rn a b] h = .ok (rn ((a * b).fdiv (gc (a * b) (a * a))) ((a * a).fdiv (gc (a * b) (a * a)))) h := by
  rw [T_run hn rfl rfl]
  simp [-Res.bind, -List.map_map, -MP.opt, -Res.noexc, DR.def_, ev_var, ev_con, ev_glob, ev_bin, ev_neg, negR_int, ev_cmp, ev_chain, ev_isN, ev_notN, ev_band, ev_bor, ev_bnot, ev_ife, ev_tup, ev_lst, ev_newObj, ev_sub, ev_slice, ev_rev, ev_call, ev_blt, ev_meth, ev_isinst, ev_lrg, lrgR, ev_lrg2, lrgR2, ev_lc, ev_skip, ev_seq, seqR_nx, seqR_rt, seqR_bk, seqR_ct, ev_expr, ev_asg, ev_par, unpR, ev_unp, setIR, ev_setI, ev_setO, ev_app, extR, ev_ext, ev_ret, ev_if, ev_whl, ev_for, ev_brk, ev_cont, ev_frz, ev_kill, killR_nx, killR_rt, killR_bk, ev_never, endR_rt, endR_nx, evEs, evBs, evIt, evOp, evC, evR, evRs, bindR_ok, bindR_bad, bindR_exc, bind_ite, optR_some, optR_none, opt_ite, noexc_ok, startS, getB, getS, subV, subD, atI, ixN, setv, setvs, setAll, bindT, wipe, frz, ownS, ownL, truthV, cmpV, binV, isinstV, lenV, bltV, isNV, mthTy, optI, sz, r_inverted, d_inverted, Sm.m ha hb, Sm.m ha ha, Sm.m Sm.zero hb, Sm.m Sm.zero Sm.zero, t_least_form _ _ _ h hp hs]
theorem t_floor_of {n : Nat} (hn : 26 < n) (a b : Int) (h : MH) (hb : Sm b) (h0 : b ≠ 0) : T n 26 [rn a b] h = .ok (.int (a.fdiv b)) h := by
  have i0 : PySem.Float64.isqrt 0 = 0 := by decide +kernel
  rw [T_run hn rfl rfl]
  simp [-Res.bind, -List.map_map, -MP.opt, -Res.noexc, DR.def_, ev_var, ev_con, ev_glob, ev_bin, ev_neg, negR_int, ev_cmp, ev_chain, ev_isN, ev_notN, ev_band, ev_bor, ev_bnot, ev_ife, ev_tup, ev_lst, ev_newObj, ev_sub, ev_slice, ev_rev, ev_call, ev_blt, ev_meth, ev_isinst, ev_lrg, lrgR, ev_lrg2, lrgR2, ev_lc, ev_skip, ev_seq, seqR_nx, seqR_rt, seqR_bk, seqR_ct, ev_expr, ev_asg, ev_par, unpR, ev_unp, setIR, ev_setI, ev_setO, ev_app, extR, ev_ext, ev_ret, ev_if, ev_whl, ev_for, ev_brk, ev_cont, ev_frz, ev_kill, killR_nx, killR_rt, killR_bk, ev_never, endR_rt, endR_nx, evEs, evBs, evIt, evOp, evC, evR, evRs, bindR_ok, bindR_bad, bindR_exc, bind_ite, optR_some, optR_none, opt_ite, noexc_ok, startS, getB, getS, subV, subD, atI, ixN, setv, setvs, setAll, bindT, wipe, frz, ownS, ownL, truthV, cmpV, binV, isinstV, lenV, bltV, isNV, mthTy, optI, sz, r_floor_of, d_floor_of, Sm.m Sm.zero Sm.zero, isqrtOk, i0, Sm.d hb h0]
theorem t_line {n : Nat} (hn : 42 < n) (a b p q : Int) (h : MH) (ha : Sm a) (hb : Sm b) (hp : Sm p) (hq : Sm q) (h0 : 0 < b) : T n 42 [rn a b, .int p, .int q] h = .ok (rn ((a * p + q * b).fdiv (gc (a * p + q * b) b)) (b.fdiv (gc (a * p + q * b) b))) h := by
  rw [T_run hn rfl rfl]
  simp [-Res.bind, -List.map_map, -MP.opt, -Res.noexc, DR.def_, ev_var, ev_con, ev_glob, ev_bin, ev_neg, negR_int, ev_cmp, ev_chain, ev_isN, ev_notN, ev_band, ev_bor, ev_bnot, ev_ife, ev_tup, ev_lst, ev_newObj, ev_sub, ev_slice, ev_rev, ev_call, ev_blt, ev_meth, ev_isinst, ev_lrg, lrgR, ev_lrg2, lrgR2, ev_lc, ev_skip, ev_seq, seqR_nx, seqR_rt, seqR_bk, seqR_ct, ev_expr, ev_asg, ev_par, unpR, ev_unp, setIR, ev_setI, ev_setO, ev_app, extR, ev_ext, ev_ret, ev_if, ev_whl, ev_for, ev_brk, ev_cont, ev_frz, ev_kill, killR_nx, killR_rt, killR_bk, ev_never, endR_rt, endR_nx, evEs, evBs, evIt, evOp, evC, evR, evRs, bindR_ok, bindR_bad, bindR_exc, bind_ite, optR_some, optR_none, opt_ite, noexc_ok, startS, getB, getS, subV, subD, atI, ixN, setv, setvs, setAll, bindT, wipe, frz, ownS, ownL, truthV, cmpV, binV, isinstV, lenV, bltV, isNV, mthTy, optI, sz, r_line, d_line, Sm.m ha hp, Sm.m hq hb, Sm.m Sm.zero hp, t_least_form _ _ _ h h0 hb]
theorem t_is_number {n : Nat} (hn : 19 < n) (a b : Int) (h : MH) (h1 : 1 ≤ b) (h2 : gc a b = 1) : T n 19 [rn a b] h = .ok (.bl true) h := by
  have h2' : Nat.gcd a.natAbs b.natAbs = 1 := by simp only [gc] at h2; omega
  have h3 : ¬ b < 1 := by omega
  rw [T_run hn rfl rfl]
  simp [-Res.bind, -List.map_map, -MP.opt, -Res.noexc, DR.def_, ev_var, ev_con, ev_glob, ev_bin, ev_neg, negR_int, ev_cmp, ev_chain, ev_isN, ev_notN, ev_band, ev_bor, ev_bnot, ev_ife, ev_tup, ev_lst, ev_newObj, ev_sub, ev_slice, ev_rev, ev_call, ev_blt, ev_meth, ev_isinst, ev_lrg, lrgR, ev_lrg2, lrgR2, ev_lc, ev_skip, ev_seq, seqR_nx, seqR_rt, seqR_bk, seqR_ct, ev_expr, ev_asg, ev_par, unpR, ev_unp, setIR, ev_setI, ev_setO, ev_app, extR, ev_ext, ev_ret, ev_if, ev_whl, ev_for, ev_brk, ev_cont, ev_frz, ev_kill, killR_nx, killR_rt, killR_bk, ev_never, endR_rt, endR_nx, evEs, evBs, evIt, evOp, evC, evR, evRs, bindR_ok, bindR_bad, bindR_exc, bind_ite, optR_some, optR_none, opt_ite, noexc_ok, startS, getB, getS, subV, subD, atI, ixN, setv, setvs, setAll, bindT, wipe, frz, ownS, ownL, truthV, cmpV, binV, isinstV, lenV, bltV, isNV, mthTy, optI, sz, r_is_number, d_is_number, mapR, turnLc, t_is_integer, boolsOf, eqo, pureLe, eqv, h2', h3]
theorem t_check_number {n : Nat} (hn : 20 < n) (a b : Int) (h : MH) (h1 : 1 ≤ b) (h2 : gc a b = 1) : T n 20 [rn a b] h = .ok .non h := by
  rw [T_run hn rfl rfl]
  simp [-Res.bind, -List.map_map, -MP.opt, -Res.noexc, DR.def_, ev_var, ev_con, ev_glob, ev_bin, ev_neg, negR_int, ev_cmp, ev_chain, ev_isN, ev_notN, ev_band, ev_bor, ev_bnot, ev_ife, ev_tup, ev_lst, ev_newObj, ev_sub, ev_slice, ev_rev, ev_call, ev_blt, ev_meth, ev_isinst, ev_lrg, lrgR, ev_lrg2, lrgR2, ev_lc, ev_skip, ev_seq, seqR_nx, seqR_rt, seqR_bk, seqR_ct, ev_expr, ev_asg, ev_par, unpR, ev_unp, setIR, ev_setI, ev_setO, ev_app, extR, ev_ext, ev_ret, ev_if, ev_whl, ev_for, ev_brk, ev_cont, ev_frz, ev_kill, killR_nx, killR_rt, killR_bk, ev_never, endR_rt, endR_nx, evEs, evBs, evIt, evOp, evC, evR, evRs, bindR_ok, bindR_bad, bindR_exc, bind_ite, optR_some, optR_none, opt_ite, noexc_ok, startS, getB, getS, subV, subD, atI, ixN, setv, setvs, setAll, bindT, wipe, frz, ownS, ownL, truthV, cmpV, binV, isinstV, lenV, bltV, isNV, mthTy, optI, sz, r_check_number, d_check_number, t_is_number _ a b h h1 h2]
theorem t_as_fraction {n : Nat} (hn : 21 < n) (a b : Int) (h : MH) (h1 : 1 ≤ b) (h2 : gc a b = 1) : T n 21 [rn a b] h = .ok (fr a b) h := by
  rw [T_run hn rfl rfl]
  simp [-Res.bind, -List.map_map, -MP.opt, -Res.noexc, DR.def_, ev_var, ev_con, ev_glob, ev_bin, ev_neg, negR_int, ev_cmp, ev_chain, ev_isN, ev_notN, ev_band, ev_bor, ev_bnot, ev_ife, ev_tup, ev_lst, ev_newObj, ev_sub, ev_slice, ev_rev, ev_call, ev_blt, ev_meth, ev_isinst, ev_lrg, lrgR, ev_lrg2, lrgR2, ev_lc, ev_skip, ev_seq, seqR_nx, seqR_rt, seqR_bk, seqR_ct, ev_expr, ev_asg, ev_par, unpR, ev_unp, setIR, ev_setI, ev_setO, ev_app, extR, ev_ext, ev_ret, ev_if, ev_whl, ev_for, ev_brk, ev_cont, ev_frz, ev_kill, killR_nx, killR_rt, killR_bk, ev_never, endR_rt, endR_nx, evEs, evBs, evIt, evOp, evC, evR, evRs, bindR_ok, bindR_bad, bindR_exc, bind_ite, optR_some, optR_none, opt_ite, noexc_ok, startS, getB, getS, subV, subD, atI, ixN, setv, setvs, setAll, bindT, wipe, frz, ownS, ownL, truthV, cmpV, binV, isinstV, lenV, bltV, isNV, mthTy, optI, sz, r_as_fraction, d_as_fraction, t_check_number _ a b h h1 h2, eqo, pureLe, eqv]
theorem t_as_number {n : Nat} (hn : 47 < n) (a b : Int) (h : MH) (h1 : 1 ≤ b) (h2 : gc a b = 1) : T n 47 [fr a b] h = .ok (rn a b) h := by
  rw [T_run hn rfl rfl]
  simp [-Res.bind, -List.map_map, -MP.opt, -Res.noexc, DR.def_, ev_var, ev_con, ev_glob, ev_bin, ev_neg, negR_int, ev_cmp, ev_chain, ev_isN, ev_notN, ev_band, ev_bor, ev_bnot, ev_ife, ev_tup, ev_lst, ev_newObj, ev_sub, ev_slice, ev_rev, ev_call, ev_blt, ev_meth, ev_isinst, ev_lrg, lrgR, ev_lrg2, lrgR2, ev_lc, ev_skip, ev_seq, seqR_nx, seqR_rt, seqR_bk, seqR_ct, ev_expr, ev_asg, ev_par, unpR, ev_unp, setIR, ev_setI, ev_setO, ev_app, extR, ev_ext, ev_ret, ev_if, ev_whl, ev_for, ev_brk, ev_cont, ev_frz, ev_kill, killR_nx, killR_rt, killR_bk, ev_never, endR_rt, endR_nx, evEs, evBs, evIt, evOp, evC, evR, evRs, bindR_ok, bindR_bad, bindR_exc, bind_ite, optR_some, optR_none, opt_ite, noexc_ok, startS, getB, getS, subV, subD, atI, ixN, setv, setvs, setAll, bindT, wipe, frz, ownS, ownL, truthV, cmpV, binV, isinstV, lenV, bltV, isNV, mthTy, optI, sz, r_as_number, d_as_number, t_check_fraction _ a b h h1 h2]
theorem t_least_terms {n : Nat} (hn : 45 < n) (a b : Int) (h : MH) (hb : Sm b) (h0 : b ≠ 0) : T n 45 [.int a, .int b] h = .ok (fr (a.fdiv (gc a b)) (b.fdiv (gc a b))) h := by
  have g1 := Sm.d (gc_sm (a := a) hb (by omega)) (gc_ne (by omega))
  simp only [gc] at g1
  rw [T_run hn rfl rfl]
  simp [-Res.bind, -List.map_map, -MP.opt, -Res.noexc, DR.def_, ev_var, ev_con, ev_glob, ev_bin, ev_neg, negR_int, ev_cmp, ev_chain, ev_isN, ev_notN, ev_band, ev_bor, ev_bnot, ev_ife, ev_tup, ev_lst, ev_newObj, ev_sub, ev_slice, ev_rev, ev_call, ev_blt, ev_meth, ev_isinst, ev_lrg, lrgR, ev_lrg2, lrgR2, ev_lc, ev_skip, ev_seq, seqR_nx, seqR_rt, seqR_bk, seqR_ct, ev_expr, ev_asg, ev_par, unpR, ev_unp, setIR, ev_setI, ev_setO, ev_app, extR, ev_ext, ev_ret, ev_if, ev_whl, ev_for, ev_brk, ev_cont, ev_frz, ev_kill, killR_nx, killR_rt, killR_bk, ev_never, endR_rt, endR_nx, evEs, evBs, evIt, evOp, evC, evR, evRs, bindR_ok, bindR_bad, bindR_exc, bind_ite, optR_some, optR_none, opt_ite, noexc_ok, startS, getB, getS, subV, subD, atI, ixN, setv, setvs, setAll, bindT, wipe, frz, ownS, ownL, truthV, cmpV, binV, isinstV, lenV, bltV, isNV, mthTy, optI, sz, r_least_terms, d_least_terms, g1]
theorem t_middle {n : Nat} (hn : 46 < n) (a b c d : Int) (h : MH) (h1 : 1 ≤ b) (h2 : gc a b = 1) (h3 : 1 ≤ d) (h4 : gc c d = 1) (hb : Sm (b + d)) : T n 46 [fr a b, fr c d] h = .ok (fr ((a + c).fdiv (gc (a + c) (b + d))) ((b + d).fdiv (gc (a + c) (b + d)))) h := by
  rw [T_run hn rfl rfl]
  simp [-Res.bind, -List.map_map, -MP.opt, -Res.noexc, DR.def_, ev_var, ev_con, ev_glob, ev_bin, ev_neg, negR_int, ev_cmp, ev_chain, ev_isN, ev_notN, ev_band, ev_bor, ev_bnot, ev_ife, ev_tup, ev_lst, ev_newObj, ev_sub, ev_slice, ev_rev, ev_call, ev_blt, ev_meth, ev_isinst, ev_lrg, lrgR, ev_lrg2, lrgR2, ev_lc, ev_skip, ev_seq, seqR_nx, seqR_rt, seqR_bk, seqR_ct, ev_expr, ev_asg, ev_par, unpR, ev_unp, setIR, ev_setI, ev_setO, ev_app, extR, ev_ext, ev_ret, ev_if, ev_whl, ev_for, ev_brk, ev_cont, ev_frz, ev_kill, killR_nx, killR_rt, killR_bk, ev_never, endR_rt, endR_nx, evEs, evBs, evIt, evOp, evC, evR, evRs, bindR_ok, bindR_bad, bindR_exc, bind_ite, optR_some, optR_none, opt_ite, noexc_ok, startS, getB, getS, subV, subD, atI, ixN, setv, setvs, setAll, bindT, wipe, frz, ownS, ownL, truthV, cmpV, binV, isinstV, lenV, bltV, isNV, mthTy, optI, sz, r_middle, d_middle, t_check_fraction _ a b h h1 h2, t_check_fraction _ c d h h3 h4, t_least_terms _ _ _ h hb (by omega)]
end LawP
set_option maxHeartbeats 1000000
set_option autoImplicit false
namespace LawP
open MP
abbrev pt (a b c : Int) : Val := .lst [.int a, .int b, .int c]
def Pot (h : MH) (k n : Nat) : Prop := ∃ a b c : Int, h[k]? = some (pt a b c) ∧ 0 ≤ a ∧ a < 2 ^ 1000 ∧ 0 ≤ b ∧ b < 2 ^ 64 ∧ 0 ≤ c ∧ c ≤ n
theorem lt_nat {k n : Nat} {c : Int} (h0 : 0 ≤ c) (h : c ≤ n) (hn : n < 2 ^ k) : Lt k c := by
  unfold Lt
  omega
theorem Pot.lt {h : MH} {k n : Nat} (p : Pot h k n) : k < h.length := by
  obtain ⟨a, b, c, e, _⟩ := p
  exact (List.getElem?_eq_some_iff.mp e).1
theorem pos_lt {k : Nat} {a : Int} (h0 : 0 ≤ a) (h1 : a < 2 ^ k) : Lt k a := Lt.of (by have : (0 : Int) < 2 ^ k := Int.pow_pos (by omega); omega) h1
theorem t_take {n : Nat} (hn : 40 < n) {h : MH} {k m : Nat} (p : Pot h k m) (hm : m < 2 ^ 20) (u : Int) (hu : 0 < u) (su : Lt 100 u) :
    ∃ d h', T n 40 [.obj k, .int u] h = .ok (.int d) h' ∧ 0 ≤ d ∧ d < u ∧ Pot h' k (m + 1) := by
  have hk := p.lt
  have hset : ∀ v : Val, (List.set h k v)[k]? = some v := fun v => List.getElem?_set_self hk
  obtain ⟨a, b, c, e, a0, a1, b0, b1, c0, c1⟩ := p
  have su' : Sm u := su.mono (by omega)
  have u0 : u ≠ 0 := by omega
  have du := Sm.d su' u0
  by_cases ha : 0 < a
  · refine ⟨a.fmod u, h.set k (pt (a.fdiv u) b c), ?_, Int.fmod_nonneg_of_pos a hu, Int.fmod_lt_of_pos a hu, a.fdiv u, b, c, List.getElem?_set_self hk, ?_, ?_, b0, b1, c0, by omega⟩
    · rw [T_run hn rfl rfl]
      simp [-Res.bind, -List.map_map, -MP.opt, -Res.noexc, DR.def_, ev_var, ev_con, ev_glob, ev_bin, ev_neg, negR_int, ev_cmp, ev_chain, ev_isN, ev_notN, ev_band, ev_bor, ev_bnot, ev_ife, ev_tup, ev_lst, ev_newObj, ev_sub, ev_slice, ev_rev, ev_call, ev_blt, ev_meth, ev_isinst, ev_lrg, lrgR, ev_lrg2, lrgR2, ev_lc, ev_skip, ev_seq, seqR_nx, seqR_rt, seqR_bk, seqR_ct, ev_expr, ev_asg, ev_par, unpR, ev_unp, setIR, ev_setI, ev_setO, ev_app, extR, ev_ext, ev_ret, ev_if, ev_whl, ev_for, ev_brk, ev_cont, ev_frz, ev_kill, killR_nx, killR_rt, killR_bk, ev_never, endR_rt, endR_nx, evEs, evBs, evIt, evOp, evC, evR, evRs, bindR_ok, bindR_bad, bindR_exc, bind_ite, optR_some, optR_none, opt_ite, noexc_ok, startS, getB, getS, subV, subD, atI, ixN, setv, setvs, setAll, bindT, wipe, frz, ownS, ownL, truthV, cmpV, binV, isinstV, lenV, bltV, isNV, mthTy, optI, sz, r__law_take, d__law_take, e, ha, u0, du, putV]
    · exact Int.fdiv_nonneg a0 (by omega)
    · have : a.fdiv u ≤ a := by
        rw [Int.fdiv_eq_ediv_of_nonneg _ (by omega)]
        exact Int.ediv_le_self _ a0
      omega
  · have sc : Lt 21 (c + 1) := lt_nat (n := m + 1) (by omega) (by omega) (by omega)
    have sb : Lt 64 b := pos_lt b0 b1
    have m1 : mulOk 55657 (c + 1) = true := (show Lt 16 55657 by unfold Lt; decide).mulOk sc (by omega)
    have l1 : Lt 37 (55657 * (c + 1)) := (show Lt 16 55657 by unfold Lt; decide).mul sc
    have m2 : mulOk (55657 * (c + 1)) (c + 1) = true := l1.mulOk sc (by omega)
    have l2 : Lt 58 (55657 * (c + 1) * (c + 1)) := l1.mul sc
    have l3 : Lt 66 (b + 55657 * (c + 1) * (c + 1) + 4166) := Lt.add (k := 65) (Lt.add (k := 64) sb (l2.mono (by omega))) (Lt.mono (k := 13) (by unfold Lt; decide) (by omega))
    have p3 : powOk (b + 55657 * (c + 1) * (c + 1) + 4166) 3 = true := by
      unfold powOk
      have := log2_lt l3
      rw [Bool.and_eq_true]
      refine ⟨by decide, decide_eq_true ?_⟩
      have : ((b + 55657 * (c + 1) * (c + 1) + 4166).natAbs.log2 + 1) * 3 ≤ 67 * 3 := Nat.mul_le_mul_right _ (by omega)
      exact Nat.le_trans this (by decide)
    obtain ⟨j, hj, hj5⟩ : ∃ j : Nat, (c + 1).fmod 5 = j ∧ j < 5 := by
      have h1 := Int.fmod_nonneg_of_pos (c + 1) (show (0 : Int) < 5 by omega)
      have h2 := Int.fmod_lt_of_pos (c + 1) (show (0 : Int) < 5 by omega)
      exact ⟨((c + 1).fmod 5).toNat, by omega, by omega⟩
    have hj5' : (j : Int) < 5 := by omega
    obtain ⟨pr, hp1, hp2, hp3⟩ : ∃ pr : Int, ([Val.int 2147483647, Val.int 2147483629, Val.int 2147483587, Val.int 2147483579, Val.int 2147483563] : List Val)[j]? = some (.int pr) ∧ 0 < pr ∧ pr < 2 ^ 31 := by
      have : j = 0 ∨ j = 1 ∨ j = 2 ∨ j = 3 ∨ j = 4 := by omega
      rcases this with rfl | rfl | rfl | rfl | rfl <;> exact ⟨_, rfl, by decide, by decide⟩
    have hp0 : pr ≠ 0 := by omega
    generalize hx : (b + 55657 * (c + 1) * (c + 1) + 4166) ^ 3 = x
    have f0 := Int.fmod_nonneg_of_pos x hp2
    have f1 := Int.fmod_lt_of_pos x hp2
    have lf : Lt 31 (x.fmod pr) := pos_lt f0 (by omega)
    have lg : Lt 14 ((x.fmod pr).fmod 8851) := pos_lt (Int.fmod_nonneg_of_pos _ (by omega)) (by have := Int.fmod_lt_of_pos (x.fmod pr) (show (0 : Int) < 8851 by omega); omega)
    have m3 : mulOk 1266 (c + 1) = true := (show Lt 11 1266 by unfold Lt; decide).mulOk sc (by omega)
    have l4 : Lt 33 ((x.fmod pr).fmod 8851 + 1266 * (c + 1)) := Lt.add (k := 32) (lg.mono (by omega)) ((show Lt 11 1266 by unfold Lt; decide).mul sc)
    have m4 : mulOk (x.fmod pr) ((x.fmod pr).fmod 8851 + 1266 * (c + 1)) = true := lf.mulOk l4 (by omega)
    have d449 : divOk 449 = true := by decide
    generalize hy : (x.fmod pr * ((x.fmod pr).fmod 8851 + 1266 * (c + 1))).fmod 2305843009213693907 = y
    refine ⟨(y.fdiv 449).fmod u, h.set k (pt a b (c + 1)), ?_, Int.fmod_nonneg_of_pos _ hu, Int.fmod_lt_of_pos _ hu, a, b, c + 1, List.getElem?_set_self hk, a0, a1, b0, b1, by omega, by omega⟩
    rw [T_run hn rfl rfl]
    simp [-Res.bind, -List.map_map, -MP.opt, -Res.noexc, DR.def_, ev_var, ev_con, ev_glob, ev_bin, ev_neg, negR_int, ev_cmp, ev_chain, ev_isN, ev_notN, ev_band, ev_bor, ev_bnot, ev_ife, ev_tup, ev_lst, ev_newObj, ev_sub, ev_slice, ev_rev, ev_call, ev_blt, ev_meth, ev_isinst, ev_lrg, lrgR, ev_lrg2, lrgR2, ev_lc, ev_skip, ev_seq, seqR_nx, seqR_rt, seqR_bk, seqR_ct, ev_expr, ev_asg, ev_par, unpR, ev_unp, setIR, ev_setI, ev_setO, ev_app, extR, ev_ext, ev_ret, ev_if, ev_whl, ev_for, ev_brk, ev_cont, ev_frz, ev_kill, killR_nx, killR_rt, killR_bk, ev_never, endR_rt, endR_nx, evEs, evBs, evIt, evOp, evC, evR, evRs, bindR_ok, bindR_bad, bindR_exc, bind_ite, optR_some, optR_none, opt_ite, noexc_ok, startS, getB, getS, subV, subD, atI, ixN, setv, setvs, setAll, bindT, wipe, frz, ownS, ownL, truthV, cmpV, binV, isinstV, lenV, bltV, isNV, mthTy, optI, sz, r__law_take, d__law_take, e, ha, u0, putV, hset, m1, m2, p3, hj, hj5', hp1, hp0, hx, m3, m4, d449, hy]
end LawP
set_option maxHeartbeats 1000000
set_option autoImplicit false
namespace LawP
open MP
theorem intsOf_map : ∀ l : List Int, intsOf (l.map Val.int) = some l
  | [] => rfl
  | x :: l => by simp [intsOf, intsOf_map l]
theorem t_of {n : Nat} (hn : 41 < n) {h : MH} {k m : Nat} (p : Pot h k m) (hm : m < 2 ^ 20) (l : List Val) (h0 : l ≠ []) (h1 : l.length ≤ 1000) :
    ∃ v h', T n 41 [.obj k, .lst l] h = .ok v h' ∧ v ∈ l ∧ Pot h' k (m + 1) := by
  have hl : 0 < l.length := List.length_pos_iff.mpr h0
  obtain ⟨d, h', e, d0, d1, p'⟩ := t_take (n := 41) (by omega) p hm (l.length : Int) (by omega) (lt_nat (n := 1000) (by omega) (by omega) (by decide))
  obtain ⟨j, rfl⟩ : ∃ j : Nat, d = j := ⟨d.toNat, by omega⟩
  have hj : j < l.length := by omega
  refine ⟨l[j], h', ?_, List.getElem_mem hj, p'⟩
  rw [T_run hn rfl rfl]
  simp [-Res.bind, -List.map_map, -MP.opt, -Res.noexc, DR.def_, ev_var, ev_con, ev_glob, ev_bin, ev_neg, negR_int, ev_cmp, ev_chain, ev_isN, ev_notN, ev_band, ev_bor, ev_bnot, ev_ife, ev_tup, ev_lst, ev_newObj, ev_sub, ev_slice, ev_rev, ev_call, ev_blt, ev_meth, ev_isinst, ev_lrg, lrgR, ev_lrg2, lrgR2, ev_lc, ev_skip, ev_seq, seqR_nx, seqR_rt, seqR_bk, seqR_ct, ev_expr, ev_asg, ev_par, unpR, ev_unp, setIR, ev_setI, ev_setO, ev_app, extR, ev_ext, ev_ret, ev_if, ev_whl, ev_for, ev_brk, ev_cont, ev_frz, ev_kill, killR_nx, killR_rt, killR_bk, ev_never, endR_rt, endR_nx, evEs, evBs, evIt, evOp, evC, evR, evRs, bindR_ok, bindR_bad, bindR_exc, bind_ite, optR_some, optR_none, opt_ite, noexc_ok, startS, getB, getS, subV, subD, atI, ixN, setv, setvs, setAll, bindT, wipe, frz, ownS, ownL, truthV, cmpV, binV, isinstV, lenV, bltV, isNV, mthTy, optI, sz, r__law_of, d__law_of, e, hj]
theorem t_pot {n : Nat} (hn : 62 < n) (ns : List Int) (p : Nat) (hp : p ≤ 5) (h : MH) : ∃ a b : Int, T n 62 [.lst (ns.map Val.int), .int p] h = .ok (.obj h.length) (h ++ [pt a b 0]) ∧ 0 ≤ a ∧ a < 2 ^ 1000 ∧ 0 ≤ b ∧ b < 2 ^ 64 := by
  obtain ⟨c, hc⟩ : ∃ c : Int, ∀ η : Env, η = [.v (.lst (ns.map Val.int)), .v (.int p), .e, .e, .e] → evE (T 62) false (.ife (.cmp .lt (.var 1) (.blt .len (.cons (.var 0) .nil))) (.sub (.var 0) (.var 1)) (.bin .add (.bin .add (.bin .mod (.blt .toint (.cons (.blt .sum (.cons (.sliceE (.var 0) .no (.yes (.con (.int 1)))) .nil)) .nil)) (.con (.int 1000959))) (.bin .mul (.con (.int 7704)) (.var 1))) (.con (.int 2458)))) η h = .ok (.int c) h := by
    by_cases hl : p < ns.length
    · refine ⟨ns[p], fun η e => ?_⟩
      subst e
      simp [-Res.bind, -List.map_map, -MP.opt, -Res.noexc, DR.def_, ev_var, ev_con, ev_glob, ev_bin, ev_neg, negR_int, ev_cmp, ev_chain, ev_isN, ev_notN, ev_band, ev_bor, ev_bnot, ev_ife, ev_tup, ev_lst, ev_newObj, ev_sub, ev_slice, ev_rev, ev_call, ev_blt, ev_meth, ev_isinst, ev_lrg, lrgR, ev_lrg2, lrgR2, ev_lc, ev_skip, ev_seq, seqR_nx, seqR_rt, seqR_bk, seqR_ct, ev_expr, ev_asg, ev_par, unpR, ev_unp, setIR, ev_setI, ev_setO, ev_app, extR, ev_ext, ev_ret, ev_if, ev_whl, ev_for, ev_brk, ev_cont, ev_frz, ev_kill, killR_nx, killR_rt, killR_bk, ev_never, endR_rt, endR_nx, evEs, evBs, evIt, evOp, evC, evR, evRs, bindR_ok, bindR_bad, bindR_exc, bind_ite, optR_some, optR_none, opt_ite, noexc_ok, startS, getB, getS, subV, subD, atI, ixN, setv, setvs, setAll, bindT, wipe, frz, ownS, ownL, truthV, cmpV, binV, isinstV, lenV, bltV, isNV, mthTy, optI, sz, hl]
    · have m1 : mulOk 7704 (p : Int) = true := (show Lt 13 7704 by unfold Lt; decide).mulOk (lt_nat (k := 3) (n := 5) (by omega) (by omega) (by decide)) (by omega)
      have ct : cut (ns.map Val.int) none (some 1) = (ns.take 1).map Val.int := by
        unfold cut sIx
        rw [List.map_take]
        rcases ns with _ | ⟨x, _ | ⟨y, ns⟩⟩ <;> simp
      have it : intsOf (List.take 1 (ns.map Val.int)) = some (ns.take 1) := by rw [← List.map_take]; exact intsOf_map _
      refine ⟨((ns.take 1).sum).fmod 1000959 + 7704 * p + 2458, fun η e => ?_⟩
      subst e
      simp [-Res.bind, -List.map_map, -MP.opt, -Res.noexc, DR.def_, ev_var, ev_con, ev_glob, ev_bin, ev_neg, negR_int, ev_cmp, ev_chain, ev_isN, ev_notN, ev_band, ev_bor, ev_bnot, ev_ife, ev_tup, ev_lst, ev_newObj, ev_sub, ev_slice, ev_rev, ev_call, ev_blt, ev_meth, ev_isinst, ev_lrg, lrgR, ev_lrg2, lrgR2, ev_lc, ev_skip, ev_seq, seqR_nx, seqR_rt, seqR_bk, seqR_ct, ev_expr, ev_asg, ev_par, unpR, ev_unp, setIR, ev_setI, ev_setO, ev_app, extR, ev_ext, ev_ret, ev_if, ev_whl, ev_for, ev_brk, ev_cont, ev_frz, ev_kill, killR_nx, killR_rt, killR_bk, ev_never, endR_rt, endR_nx, evEs, evBs, evIt, evOp, evC, evR, evRs, bindR_ok, bindR_bad, bindR_exc, bind_ite, optR_some, optR_none, opt_ite, noexc_ok, startS, getB, getS, subV, subD, atI, ixN, setv, setvs, setAll, bindT, wipe, frz, ownS, ownL, truthV, cmpV, binV, isinstV, lenV, bltV, isNV, mthTy, optI, sz, hl, slcV, ct, it, m1]
  generalize habs : (if c < 0 then -c else c) = d
  have dm0 := Int.fmod_nonneg_of_pos d (show (0 : Int) < (10 ^ 60) ^ 5 by decide)
  have dm1 := Int.fmod_lt_of_pos d (show (0 : Int) < (10 ^ 60) ^ 5 by decide)
  generalize hM : d.fmod ((10 ^ 60) ^ 5) = x at dm0 dm1
  have hx : x < 2 ^ 1000 := Int.lt_trans dm1 (by decide)
  have lx : Lt 1000 x := pos_lt dm0 hx
  have m1 : mulOk x 1 = true := lx.mulOk (show Lt 1 1 by unfold Lt; decide) (by omega)
  have m0 : mulOk x 0 = true := lx.mulOk (show Lt 1 0 by unfold Lt; decide) (by omega)
  have c0 := Int.fmod_nonneg_of_pos c (show (0 : Int) < 2305843009213693951 by decide)
  have c1 := Int.fmod_lt_of_pos c (show (0 : Int) < 2305843009213693951 by decide)
  generalize hy : c.fmod 2305843009213693951 = y at c0 c1
  have ly : Lt 61 y := pos_lt c0 (by omega)
  have lp : Lt 3 (p : Int) := lt_nat (n := 5) (by omega) (by omega) (by decide)
  have m2 : mulOk y 53745 = true := ly.mulOk (show Lt 16 53745 by unfold Lt; decide) (by omega)
  have m3 : mulOk 11205 (p : Int) = true := (show Lt 14 11205 by unfold Lt; decide).mulOk lp (by omega)
  have m4 : mulOk (11205 * (p : Int)) (p : Int) = true := ((show Lt 14 11205 by unfold Lt; decide).mul lp).mulOk lp (by omega)
  have b0 := Int.fmod_nonneg_of_pos (y * 53745 + 11205 * p * p + 3036) (show (0 : Int) < 2305843009213693921 by decide)
  have b1 := Int.fmod_lt_of_pos (y * 53745 + 11205 * p * p + 3036) (show (0 : Int) < 2305843009213693921 by decide)
  have pw1 : powOk 10 60 = true := by decide +kernel
  have pw2 : powOk (10 ^ 60) 5 = true := by decide +kernel
  have pw3 : powOk 10 18 = true := by decide +kernel
  refine ⟨if decide ((10 : Int) ^ 18 ≤ d) = true then x else 0, (y * 53745 + 11205 * p * p + 3036).fmod 2305843009213693921, ?_, ?_, ?_, b0, by omega⟩
  · rw [T_run hn rfl rfl]
    simp only [Int.reducePow] at pw2 hM
    by_cases hd : (10 : Int) ^ 18 ≤ d
    · simp only [Int.reducePow] at hd
      simp [-Res.bind, -List.map_map, -MP.opt, -Res.noexc, DR.def_, ev_var, ev_con, ev_glob, ev_bin, ev_neg, negR_int, ev_cmp, ev_chain, ev_isN, ev_notN, ev_band, ev_bor, ev_bnot, ev_ife, ev_tup, ev_lst, ev_newObj, ev_sub, ev_slice, ev_rev, ev_call, ev_blt, ev_meth, ev_isinst, ev_lrg, lrgR, ev_lrg2, lrgR2, ev_lc, ev_skip, ev_seq, seqR_nx, seqR_rt, seqR_bk, seqR_ct, ev_expr, ev_asg, ev_par, unpR, ev_unp, setIR, ev_setI, ev_setO, ev_app, extR, ev_ext, ev_ret, ev_if, ev_whl, ev_for, ev_brk, ev_cont, ev_frz, ev_kill, killR_nx, killR_rt, killR_bk, ev_never, endR_rt, endR_nx, evEs, evBs, evIt, evOp, evC, evR, evRs, bindR_ok, bindR_bad, bindR_exc, bind_ite, optR_some, optR_none, opt_ite, noexc_ok, startS, getB, getS, subV, subD, atI, ixN, setv, setvs, setAll, bindT, wipe, frz, ownS, ownL, truthV, cmpV, binV, isinstV, lenV, bltV, isNV, mthTy, optI, sz, r__law_pot, d__law_pot, hc _ rfl, habs, pw1, pw2, pw3, hM, hd, m1, m0, hy, m2, m3, m4]
    · simp only [Int.reducePow] at hd
      simp [-Res.bind, -List.map_map, -MP.opt, -Res.noexc, DR.def_, ev_var, ev_con, ev_glob, ev_bin, ev_neg, negR_int, ev_cmp, ev_chain, ev_isN, ev_notN, ev_band, ev_bor, ev_bnot, ev_ife, ev_tup, ev_lst, ev_newObj, ev_sub, ev_slice, ev_rev, ev_call, ev_blt, ev_meth, ev_isinst, ev_lrg, lrgR, ev_lrg2, lrgR2, ev_lc, ev_skip, ev_seq, seqR_nx, seqR_rt, seqR_bk, seqR_ct, ev_expr, ev_asg, ev_par, unpR, ev_unp, setIR, ev_setI, ev_setO, ev_app, extR, ev_ext, ev_ret, ev_if, ev_whl, ev_for, ev_brk, ev_cont, ev_frz, ev_kill, killR_nx, killR_rt, killR_bk, ev_never, endR_rt, endR_nx, evEs, evBs, evIt, evOp, evC, evR, evRs, bindR_ok, bindR_bad, bindR_exc, bind_ite, optR_some, optR_none, opt_ite, noexc_ok, startS, getB, getS, subV, subD, atI, ixN, setv, setvs, setAll, bindT, wipe, frz, ownS, ownL, truthV, cmpV, binV, isinstV, lenV, bltV, isNV, mthTy, optI, sz, r__law_pot, d__law_pot, hc _ rfl, habs, pw1, pw2, pw3, hM, hd, m1, m0, hy, m2, m3, m4]
  · split <;> omega
  · split
    · exact hx
    · decide
end LawP
set_option maxHeartbeats 1000000
set_option autoImplicit false
namespace LawP
open MP
theorem t_cells {n : Nat} (hn : 63 < n) (ns : List Int) (h : MH) : T n 63 [.lst (ns.map Val.int), .int 2] h = .ok (.lst (if ns.length ≤ 1 then [.int 0] else [.int 0, .int 1])) h := by
  rw [T_run hn rfl rfl]
  by_cases h1 : ns.length ≤ 1
  · have c1 : (ns.length : Int) < 2 := by omega
    have c2 : ¬ (1 : Int) < ns.length := by omega
    simp [-Res.bind, -List.map_map, -MP.opt, -Res.noexc, DR.def_, ev_var, ev_con, ev_glob, ev_bin, ev_neg, negR_int, ev_cmp, ev_chain, ev_isN, ev_notN, ev_band, ev_bor, ev_bnot, ev_ife, ev_tup, ev_lst, ev_newObj, ev_sub, ev_slice, ev_rev, ev_call, ev_blt, ev_meth, ev_isinst, ev_lrg, lrgR, ev_lrg2, lrgR2, ev_lc, ev_skip, ev_seq, seqR_nx, seqR_rt, seqR_bk, seqR_ct, ev_expr, ev_asg, ev_par, unpR, ev_unp, setIR, ev_setI, ev_setO, ev_app, extR, ev_ext, ev_ret, ev_if, ev_whl, ev_for, ev_brk, ev_cont, ev_frz, ev_kill, killR_nx, killR_rt, killR_bk, ev_never, endR_rt, endR_nx, evEs, evBs, evIt, evOp, evC, evR, evRs, bindR_ok, bindR_bad, bindR_exc, bind_ite, optR_some, optR_none, opt_ite, noexc_ok, startS, getB, getS, subV, subD, atI, ixN, setv, setvs, setAll, bindT, wipe, frz, ownS, ownL, truthV, cmpV, binV, isinstV, lenV, bltV, isNV, mthTy, optI, sz, r__law_cells, d__law_cells, h1, c1, c2, rgOk, mkL, rngL]
  · by_cases h2 : ns.length = 2
    · simp [-Res.bind, -List.map_map, -MP.opt, -Res.noexc, DR.def_, ev_var, ev_con, ev_glob, ev_bin, ev_neg, negR_int, ev_cmp, ev_chain, ev_isN, ev_notN, ev_band, ev_bor, ev_bnot, ev_ife, ev_tup, ev_lst, ev_newObj, ev_sub, ev_slice, ev_rev, ev_call, ev_blt, ev_meth, ev_isinst, ev_lrg, lrgR, ev_lrg2, lrgR2, ev_lc, ev_skip, ev_seq, seqR_nx, seqR_rt, seqR_bk, seqR_ct, ev_expr, ev_asg, ev_par, unpR, ev_unp, setIR, ev_setI, ev_setO, ev_app, extR, ev_ext, ev_ret, ev_if, ev_whl, ev_for, ev_brk, ev_cont, ev_frz, ev_kill, killR_nx, killR_rt, killR_bk, ev_never, endR_rt, endR_nx, evEs, evBs, evIt, evOp, evC, evR, evRs, bindR_ok, bindR_bad, bindR_exc, bind_ite, optR_some, optR_none, opt_ite, noexc_ok, startS, getB, getS, subV, subD, atI, ixN, setv, setvs, setAll, bindT, wipe, frz, ownS, ownL, truthV, cmpV, binV, isinstV, lenV, bltV, isNV, mthTy, optI, sz, r__law_cells, d__law_cells, h2, rgOk, mkL, rngL, List.range_succ]
    · have c1 : ¬ (ns.length : Int) < 2 := by omega
      simp [-Res.bind, -List.map_map, -MP.opt, -Res.noexc, DR.def_, ev_var, ev_con, ev_glob, ev_bin, ev_neg, negR_int, ev_cmp, ev_chain, ev_isN, ev_notN, ev_band, ev_bor, ev_bnot, ev_ife, ev_tup, ev_lst, ev_newObj, ev_sub, ev_slice, ev_rev, ev_call, ev_blt, ev_meth, ev_isinst, ev_lrg, lrgR, ev_lrg2, lrgR2, ev_lc, ev_skip, ev_seq, seqR_nx, seqR_rt, seqR_bk, seqR_ct, ev_expr, ev_asg, ev_par, unpR, ev_unp, setIR, ev_setI, ev_setO, ev_app, extR, ev_ext, ev_ret, ev_if, ev_whl, ev_for, ev_brk, ev_cont, ev_frz, ev_kill, killR_nx, killR_rt, killR_bk, ev_never, endR_rt, endR_nx, evEs, evBs, evIt, evOp, evC, evR, evRs, bindR_ok, bindR_bad, bindR_exc, bind_ite, optR_some, optR_none, opt_ite, noexc_ok, startS, getB, getS, subV, subD, atI, ixN, setv, setvs, setAll, bindT, wipe, frz, ownS, ownL, truthV, cmpV, binV, isinstV, lenV, bltV, isNV, mthTy, optI, sz, r__law_cells, d__law_cells, h1, c1, rgOk, mkL, rngL, List.range_succ]
theorem pot_new {h : MH} {a b : Int} (a0 : 0 ≤ a) (a1 : a < 2 ^ 1000) (b0 : 0 ≤ b) (b1 : b < 2 ^ 64) : Pot (h ++ [pt a b 0]) h.length 0 :=
  ⟨a, b, 0, by simp, a0, a1, b0, b1, by omega, by omega⟩
theorem law_top (main : ∀ (h : MH) (k : Nat), Pot h k 0 → ∃ h', T 64 61 [.obj k] h = .ok (.bl true) h') (ns : List Int) : ∃ h', T 65 64 [.lst (ns.map Val.int)] [] = .ok (.bl true) h' := by
  obtain ⟨a, b, e1, a0, a1, b0, b1⟩ := t_pot (n := 64) (by omega) ns 0 (by omega) []
  obtain ⟨h1, f1⟩ := main _ _ (pot_new (h := []) a0 a1 b0 b1)
  obtain ⟨a', b', e2, a0', a1', b0', b1'⟩ := t_pot (n := 64) (by omega) ns 1 (by omega) h1
  obtain ⟨h2, f2⟩ := main _ _ (pot_new (h := h1) a0' a1' b0' b1')
  have e1 : T 64 62 [.lst (ns.map Val.int), .int 0] [] = .ok (.obj 0) [pt a b 0] := e1
  have f1 : T 64 61 [.obj 0] [pt a b 0] = .ok (.bl true) h1 := f1
  have e2 : T 64 62 [.lst (ns.map Val.int), .int 1] h1 = .ok (.obj h1.length) (h1 ++ [pt a' b' 0]) := e2
  by_cases hl : ns.length ≤ 1
  · refine ⟨h1, ?_⟩
    rw [T_run (by omega) rfl rfl]
    simp [-Res.bind, -List.map_map, -MP.opt, -Res.noexc, DR.def_, ev_var, ev_con, ev_glob, ev_bin, ev_neg, negR_int, ev_cmp, ev_chain, ev_isN, ev_notN, ev_band, ev_bor, ev_bnot, ev_ife, ev_tup, ev_lst, ev_newObj, ev_sub, ev_slice, ev_rev, ev_call, ev_blt, ev_meth, ev_isinst, ev_lrg, lrgR, ev_lrg2, lrgR2, ev_lc, ev_skip, ev_seq, seqR_nx, seqR_rt, seqR_bk, seqR_ct, ev_expr, ev_asg, ev_par, unpR, ev_unp, setIR, ev_setI, ev_setO, ev_app, extR, ev_ext, ev_ret, ev_if, ev_whl, ev_for, ev_brk, ev_cont, ev_frz, ev_kill, killR_nx, killR_rt, killR_bk, ev_never, endR_rt, endR_nx, evEs, evBs, evIt, evOp, evC, evR, evRs, bindR_ok, bindR_bad, bindR_exc, bind_ite, optR_some, optR_none, opt_ite, noexc_ok, startS, getB, getS, subV, subD, atI, ixN, setv, setvs, setAll, bindT, wipe, frz, ownS, ownL, truthV, cmpV, binV, isinstV, lenV, bltV, isNV, mthTy, optI, sz, r_law, d_law, t_cells (n := 64) (by omega) ns, hl, mapR, turnLc, e1, f1, boolsOf]
  · refine ⟨h2, ?_⟩
    rw [T_run (by omega) rfl rfl]
    simp [-Res.bind, -List.map_map, -MP.opt, -Res.noexc, DR.def_, ev_var, ev_con, ev_glob, ev_bin, ev_neg, negR_int, ev_cmp, ev_chain, ev_isN, ev_notN, ev_band, ev_bor, ev_bnot, ev_ife, ev_tup, ev_lst, ev_newObj, ev_sub, ev_slice, ev_rev, ev_call, ev_blt, ev_meth, ev_isinst, ev_lrg, lrgR, ev_lrg2, lrgR2, ev_lc, ev_skip, ev_seq, seqR_nx, seqR_rt, seqR_bk, seqR_ct, ev_expr, ev_asg, ev_par, unpR, ev_unp, setIR, ev_setI, ev_setO, ev_app, extR, ev_ext, ev_ret, ev_if, ev_whl, ev_for, ev_brk, ev_cont, ev_frz, ev_kill, killR_nx, killR_rt, killR_bk, ev_never, endR_rt, endR_nx, evEs, evBs, evIt, evOp, evC, evR, evRs, bindR_ok, bindR_bad, bindR_exc, bind_ite, optR_some, optR_none, opt_ite, noexc_ok, startS, getB, getS, subV, subD, atI, ixN, setv, setvs, setAll, bindT, wipe, frz, ownS, ownL, truthV, cmpV, binV, isinstV, lenV, bltV, isNV, mthTy, optI, sz, r_law, d_law, t_cells (n := 64) (by omega) ns, hl, mapR, turnLc, e1, f1, e2, f2, boolsOf]
end LawP
set_option maxHeartbeats 1000000
set_option autoImplicit false
namespace LawP
open MP
abbrev run1 (g : Bool × Nat) : Val := .tup [.str [sg g.1], .int g.2]
theorem low_sm (t : List Bool) (hl : t.length ≤ 2000) : Sm (low t) := Lt.mono (k := t.length + 1) (pos_lt (by have := low_pos t; omega) (by have := low_le t; have : (0 : Int) < 2 ^ t.length := Int.pow_pos (by omega); rw [Int.pow_succ]; omega)) (by omega)
theorem top_sm (t : List Bool) (hl : t.length ≤ 2000) : Sm (top t) := Lt.mono (k := t.length + 1) (pos_lt (by have := top_pos t; omega) (by have := top_le t; have : (0 : Int) < 2 ^ t.length := Int.pow_pos (by omega); rw [Int.pow_succ]; omega)) (by omega)
theorem fdiv_run {a b : Int} (k : Nat) (h0 : 0 ≤ a - 1) (h1 : a - 1 < b) : (a + k * b - 1).fdiv b = k := by
  have e : a + k * b - 1 = (a - 1) + b * k := by rw [Int.mul_comm]; omega
  rw [e, Int.fdiv_eq_ediv_of_nonneg _ (by omega), Int.add_mul_ediv_left _ _ (by omega), Int.ediv_eq_zero_of_lt h0 h1]
  omega
theorem nat_sm {n : Nat} (h : n ≤ 2000) : Sm (n : Int) := lt_nat (n := 2000) (by omega) (by omega) (Nat.lt_of_lt_of_le (by decide : 2000 < 2 ^ 11) (Nat.pow_le_pow_right (by omega) (by omega)))
theorem road_body (b : Bool) (k : Nat) (k1 : 1 ≤ k) (s : List Bool) (hs : s = [] ∨ ∃ s', s = (!b) :: s') (hk : k + s.length ≤ 2000) (F : List Val) (hF : F.length ≤ 2000) (N : Nat) (hN : N + k ≤ 2000) (h : MH) :
    evS (T 8) ckP l1_road_of [.e, .v (.int (top (List.replicate k b ++ s))), .v (.int (low (List.replicate k b ++ s))), .o (.lst F), .v (.int N), .e, .e] h =
      .ok (.nx [.e, .v (.int (top s)), .v (.int (low s)), .o (.lst (F ++ [run1 (b, k)])), .v (.int ((N + k : Nat) : Int)), .e, .e]) h := by
  have tp := top_pos s
  have lp := low_pos s
  have hf : F.length < 16777216 := by omega
  obtain ⟨e1, e2⟩ := top_rep b k s
  have n1 : ¬ (2000 : Int) < N + k := by omega
  have kk : (1 : Int) ≤ k := by omega
  cases b with
  | true =>
    simp only [cond_true] at e1 e2
    have hlt : top s - 1 < low s := by
      rcases hs with rfl | ⟨s', rfl⟩
      · decide
      · have := top_cons false s'
        simp only [cond_false] at this
        have := low_pos s'
        simp only [Bool.not_true]
        omega
    have dv := fdiv_run k (show 0 ≤ top s - 1 by omega) hlt
    have dk : divOk (low s) = true := Sm.d (low_sm s (by omega)) (by omega)
    have mk : mulOk (k : Int) (low s) = true := Sm.m (nat_sm (by omega)) (low_sm s (by omega))
    have gt : low s < top s + (k : Int) * low s := by
      have : 1 * low s ≤ (k : Int) * low s := Int.mul_le_mul_of_nonneg_right kk (by omega)
      omega
    have e3 : top s + (k : Int) * low s - k * low s = top s := by omega
    rw [e1, e2]
    simp [-Res.bind, -List.map_map, -MP.opt, -Res.noexc, DR.def_, ev_var, ev_con, ev_glob, ev_bin, ev_neg, negR_int, ev_cmp, ev_chain, ev_isN, ev_notN, ev_band, ev_bor, ev_bnot, ev_ife, ev_tup, ev_lst, ev_newObj, ev_sub, ev_slice, ev_rev, ev_call, ev_blt, ev_meth, ev_isinst, ev_lrg, lrgR, ev_lrg2, lrgR2, ev_lc, ev_skip, ev_seq, seqR_nx, seqR_rt, seqR_bk, seqR_ct, ev_expr, ev_asg, ev_par, unpR, ev_unp, setIR, ev_setI, ev_setO, ev_app, extR, ev_ext, ev_ret, ev_if, ev_whl, ev_for, ev_brk, ev_cont, ev_frz, ev_kill, killR_nx, killR_rt, killR_bk, ev_never, endR_rt, endR_nx, evEs, evBs, evIt, evOp, evC, evR, evRs, bindR_ok, bindR_bad, bindR_exc, bind_ite, optR_some, optR_none, opt_ite, noexc_ok, startS, getB, getS, subV, subD, atI, ixN, setv, setvs, setAll, bindT, wipe, frz, ownS, ownL, truthV, cmpV, binV, isinstV, lenV, bltV, isNV, mthTy, optI, sz, l1_road_of, gt, dv, dk, mk, hf, n1, e3, sg]
  | false =>
    simp only [cond_false] at e1 e2
    have hlt : low s - 1 < top s := by
      rcases hs with rfl | ⟨s', rfl⟩
      · decide
      · have := top_cons true s'
        simp only [cond_true] at this
        have := top_pos s'
        simp only [Bool.not_false]
        omega
    have dv := fdiv_run k (show 0 ≤ low s - 1 by omega) hlt
    have dk : divOk (top s) = true := Sm.d (top_sm s (by omega)) (by omega)
    have mk : mulOk (k : Int) (top s) = true := Sm.m (nat_sm (by omega)) (top_sm s (by omega))
    have gt : ¬ low s + (k : Int) * top s < top s := by
      have : 1 * top s ≤ (k : Int) * top s := Int.mul_le_mul_of_nonneg_right kk (by omega)
      omega
    have e3 : low s + (k : Int) * top s - k * top s = low s := by omega
    rw [e1, e2]
    simp [-Res.bind, -List.map_map, -MP.opt, -Res.noexc, DR.def_, ev_var, ev_con, ev_glob, ev_bin, ev_neg, negR_int, ev_cmp, ev_chain, ev_isN, ev_notN, ev_band, ev_bor, ev_bnot, ev_ife, ev_tup, ev_lst, ev_newObj, ev_sub, ev_slice, ev_rev, ev_call, ev_blt, ev_meth, ev_isinst, ev_lrg, lrgR, ev_lrg2, lrgR2, ev_lc, ev_skip, ev_seq, seqR_nx, seqR_rt, seqR_bk, seqR_ct, ev_expr, ev_asg, ev_par, unpR, ev_unp, setIR, ev_setI, ev_setO, ev_app, extR, ev_ext, ev_ret, ev_if, ev_whl, ev_for, ev_brk, ev_cont, ev_frz, ev_kill, killR_nx, killR_rt, killR_bk, ev_never, endR_rt, endR_nx, evEs, evBs, evIt, evOp, evC, evR, evRs, bindR_ok, bindR_bad, bindR_exc, bind_ite, optR_some, optR_none, opt_ite, noexc_ok, startS, getB, getS, subV, subD, atI, ixN, setv, setvs, setAll, bindT, wipe, frz, ownS, ownL, truthV, cmpV, binV, isinstV, lenV, bltV, isNV, mthTy, optI, sz, l1_road_of, gt, dv, dk, mk, hf, n1, e3, sg]
theorem road_loop (h : MH) : ∀ (m : Nat) (t : List Bool), t.length ≤ m → ∀ (F : List Val) (N : Nat), N + t.length ≤ 2000 → F.length ≤ N → ∃ (n : Nat) (G : List (Bool × Nat)),
    loopW (cndB (T 8) c1_road_of) (evS (T 8) ckP l1_road_of) n [.e, .v (.int (top t)), .v (.int (low t)), .o (.lst F), .v (.int N), .e, .e] h =
      .ok (.nx [.e, .v (.int 1), .v (.int 1), .o (.lst (F ++ G.map run1)), .v (.int ((N + t.length : Nat) : Int)), .e, .e]) h ∧ (G.flatMap fun g => List.replicate g.2 g.1) = t ∧ G.length ≤ t.length ∧ ∀ g ∈ G, g.2 ≤ t.length
  | m, [], _, F, N, _, _ => by
    refine ⟨1, [], ?_, rfl, Nat.le_refl _, fun g hg => by simp at hg⟩
    have e : top [] = 1 ∧ low [] = 1 := ⟨by decide, by decide⟩
    rw [e.1, e.2]
    simp [-Res.bind, -List.map_map, -MP.opt, -Res.noexc, DR.def_, ev_var, ev_con, ev_glob, ev_bin, ev_neg, negR_int, ev_cmp, ev_chain, ev_isN, ev_notN, ev_band, ev_bor, ev_bnot, ev_ife, ev_tup, ev_lst, ev_newObj, ev_sub, ev_slice, ev_rev, ev_call, ev_blt, ev_meth, ev_isinst, ev_lrg, lrgR, ev_lrg2, lrgR2, ev_lc, ev_skip, ev_seq, seqR_nx, seqR_rt, seqR_bk, seqR_ct, ev_expr, ev_asg, ev_par, unpR, ev_unp, setIR, ev_setI, ev_setO, ev_app, extR, ev_ext, ev_ret, ev_if, ev_whl, ev_for, ev_brk, ev_cont, ev_frz, ev_kill, killR_nx, killR_rt, killR_bk, ev_never, endR_rt, endR_nx, evEs, evBs, evIt, evOp, evC, evR, evRs, bindR_ok, bindR_bad, bindR_exc, bind_ite, optR_some, optR_none, opt_ite, noexc_ok, startS, getB, getS, subV, subD, atI, ixN, setv, setvs, setAll, bindT, wipe, frz, ownS, ownL, truthV, cmpV, binV, isinstV, lenV, bltV, isNV, mthTy, optI, sz, loopW, cndB, c1_road_of, eqo, pureLe, purLes, eqv, eqvs]
  | 0, c :: t, hm, _, _, _, _ => by simp at hm
  | m + 1, c :: t, hm, F, N, hN, hF => by
    obtain ⟨k, s, e, hs⟩ := split_run c t
    have hl : (k + 1) + s.length = t.length + 1 := by
      have := congrArg List.length e
      simp only [List.length_cons, List.length_append, List.length_replicate] at this
      omega
    simp only [List.length_cons] at hm hN
    obtain ⟨n, G, e1, e2, e3, e4⟩ := road_loop h m s (by omega) (F ++ [run1 (c, k + 1)]) (N + (k + 1)) (by omega) (by rw [List.length_append]; simp; omega)
    refine ⟨n + 1, (c, k + 1) :: G, ?_, ?_, by simp only [List.length_cons]; omega, fun g hg => ?_⟩
    · have b1 := road_body c (k + 1) (by omega) s hs (by omega) F (by omega) N (by omega) h
      rw [← e] at b1
      have ne : ¬ (top (c :: t) = 1 ∧ low (c :: t) = 1) := by
        have := top_cons c t
        have := top_pos t
        have := low_pos t
        cases c <;> simp only [cond_true, cond_false] at this <;> omega
      have cd : cndB (T 8) c1_road_of [.e, .v (.int (top (c :: t))), .v (.int (low (c :: t))), .o (.lst F), .v (.int N), .e, .e] h = .ok true h := by
        simp only [Decidable.not_and_iff_not_or_not] at ne
        simp [-Res.bind, -List.map_map, -MP.opt, -Res.noexc, DR.def_, ev_var, ev_con, ev_glob, ev_bin, ev_neg, negR_int, ev_cmp, ev_chain, ev_isN, ev_notN, ev_band, ev_bor, ev_bnot, ev_ife, ev_tup, ev_lst, ev_newObj, ev_sub, ev_slice, ev_rev, ev_call, ev_blt, ev_meth, ev_isinst, ev_lrg, lrgR, ev_lrg2, lrgR2, ev_lc, ev_skip, ev_seq, seqR_nx, seqR_rt, seqR_bk, seqR_ct, ev_expr, ev_asg, ev_par, unpR, ev_unp, setIR, ev_setI, ev_setO, ev_app, extR, ev_ext, ev_ret, ev_if, ev_whl, ev_for, ev_brk, ev_cont, ev_frz, ev_kill, killR_nx, killR_rt, killR_bk, ev_never, endR_rt, endR_nx, evEs, evBs, evIt, evOp, evC, evR, evRs, bindR_ok, bindR_bad, bindR_exc, bind_ite, optR_some, optR_none, opt_ite, noexc_ok, startS, getB, getS, subV, subD, atI, ixN, setv, setvs, setAll, bindT, wipe, frz, ownS, ownL, truthV, cmpV, binV, isinstV, lenV, bltV, isNV, mthTy, optI, sz, cndB, c1_road_of, eqo, pureLe, purLes, eqv, eqvs, ne]
      rw [loopW, cd, bindR_ok]
      simp only [if_true]
      rw [b1, bindR_ok]
      simp only []
      rw [e1]
      simp only [List.map_cons, List.append_assoc, List.singleton_append, List.length_cons]
      rw [show N + (t.length + 1) = N + (k + 1) + s.length by omega]
    · rw [List.flatMap_cons, e2, e]
    · rcases List.mem_cons.mp hg with rfl | hg
      · simp only [List.length_cons]; omega
      · have := e4 g hg
        simp only [List.length_cons]; omega
theorem textsOf_map : ∀ l : List Tx, textsOf (l.map Val.str) = some l
  | [] => rfl
  | x :: l => by simp [textsOf, textsOf_map l]
theorem joinT_nil : ∀ ts : List Tx, joinT [] ts = ts.flatten
  | [] => rfl
  | [x] => by simp [joinT]
  | x :: y :: r => by
    show x ++ ([] ++ joinT [] (y :: r)) = _
    rw [joinT_nil (y :: r), List.nil_append, List.flatten_cons, List.flatten_cons, List.flatten_cons]
theorem reps_sg (b : Bool) (k : Nat) : reps [sg b] (k : Int) = List.replicate k (sg b) := by
  unfold reps
  rw [Int.toNat_natCast]
  induction k with
  | zero => rfl
  | succ k ih => rw [List.replicate_succ, List.flatten_cons, ih]; rfl
theorem flat_runs (G : List (Bool × Nat)) : (G.map fun g => List.replicate g.2 (sg g.1)).flatten = enc (G.flatMap fun g => List.replicate g.2 g.1) := by
  induction G with
  | nil => rfl
  | cons g G ih => rw [List.map_cons, List.flatten_cons, ih, List.flatMap_cons]; simp [enc]
theorem sum_runs (G : List (Bool × Nat)) : ((G.map fun g => List.replicate g.2 (sg g.1)).map (·.length)).sum = (G.flatMap fun g => List.replicate g.2 g.1).length := by
  induction G with
  | nil => rfl
  | cons g G ih => rw [List.map_cons, List.map_cons, List.sum_cons, List.flatMap_cons, List.length_append, ih]; simp
theorem rkT (n : Nat) (h : n ≤ 2000) : repOk 1 (n : Int) = true := by
  have e1 : decide ((n : Int) < 2 ^ 30) = true := decide_eq_true (by omega)
  have e2 : decide (-(2 ^ 60) < (n : Int)) = true := decide_eq_true (by omega)
  have e3 : decide (1 ≤ 1000) = true := rfl
  have e4 : decide (1 * (n : Int).toNat ≤ sz) = true := decide_eq_true (by unfold sz; omega)
  unfold repOk
  rw [e1, e2, e3, e4]; rfl
theorem rep_pos {x : Tx} {n : Int} (h : repOk x.length n = true) : binV .mul (.str x) (.int n) = some (.str (reps x n)) := by
  unfold binV; exact if_pos h
theorem rk1 (b : Bool) (k : Nat) (rk : repOk 1 (k : Int) = true) : repOk ([sg b] : Tx).length (k : Int) = true := by
  rw [show ([sg b] : Tx).length = 1 from rfl]; exact rk
theorem rq1 (b : Bool) (k : Nat) (hk : k ≤ 2000) : binV .mul (.str [sg b]) (.int k) = some (.str (List.replicate k (sg b))) := by
  have := rep_pos (rk1 b k (rkT k hk))
  rw [reps_sg] at this
  exact this
theorem rw1 (F : Val) (x y : Val) : bindT (wipe [.e, .e, .e, .o F, .e, .e, .e] [6, 5]) (.tup [6, 5]) (.tup [x, y]) = some [.e, .e, .e, .o F, .e, .v y, .v x] := rfl
theorem rw2 (F : Val) (x y : Val) (h : MH) : evE (T 8) false (.bin .mul (.var 6) (.var 5)) [.e, .e, .e, .o F, .e, .v y, .v x] h = opt (binV .mul x y) h := rfl
theorem rtt (x y z : Val) (F : Val) (h : MH) (rk : binV .mul x y = some z) : turnLc (T 8) [6, 5] (.tup [6, 5]) .no (.bin .mul (.var 6) (.var 5)) [.e, .e, .e, .o F, .e, .e, .e] (.tup [x, y]) h = .ok (some z) h := by
  unfold turnLc
  rw [rw1]
  simp only [optR_some, bindR_ok, evC, noexc_ok, if_true, rw2, rk]
theorem road_mp (G : List (Bool × Nat)) (hG : ∀ g ∈ G, g.2 ≤ 2000) (h : MH) : mapR (turnLc (T 8) [6, 5] (.tup [6, 5]) .no (.bin .mul (.var 6) (.var 5)) [.e, .e, .e, .o (.lst (G.map run1)), .e, .e, .e]) (G.map run1) h = .ok (G.map fun g => Val.str (List.replicate g.2 (sg g.1))) h :=
  mapR_pure run1 _ G fun g hg => rtt _ _ _ _ _ (rq1 g.1 g.2 (hG g hg))
theorem road_tl (G : List (Bool × Nat)) : textsOf (G.map fun g => Val.str (List.replicate g.2 (sg g.1))) = some (G.map fun g => List.replicate g.2 (sg g.1)) := by
  rw [← textsOf_map, List.map_map]; rfl
theorem t_road_of {n : Nat} (hn : 8 < n) (t : List Bool) (hl : t.length ≤ 2000) (h : MH) : T n 8 [fr (top t) (low t)] h = .ok (st t) h := by
  obtain ⟨k, G, e1, e2, e3, e4⟩ := road_loop h t.length t (Nat.le_refl _) [] 0 (by omega) (by simp)
  have wh := while_of e1 (by simp)
  simp only [List.nil_append] at wh
  rw [show ((0 : Nat) : Int) = 0 from rfl] at wh
  have mp := road_mp G (fun g hg => Nat.le_trans (e4 g hg) hl) h
  have tl := road_tl G
  have hz : t.length ≤ 16777216 := by omega
  rw [T_run hn rfl rfl]
  simp [-Res.bind, -List.map_map, -MP.opt, -Res.noexc, DR.def_, ev_var, ev_con, ev_glob, ev_bin, ev_neg, negR_int, ev_cmp, ev_chain, ev_isN, ev_notN, ev_band, ev_bor, ev_bnot, ev_ife, ev_tup, ev_lst, ev_newObj, ev_sub, ev_slice, ev_rev, ev_call, ev_blt, ev_meth, ev_isinst, ev_lrg, lrgR, ev_lrg2, lrgR2, ev_lc, ev_skip, ev_seq, seqR_nx, seqR_rt, seqR_bk, seqR_ct, ev_expr, ev_asg, ev_par, unpR, ev_unp, setIR, ev_setI, ev_setO, ev_app, extR, ev_ext, ev_ret, ev_if, ev_whl, ev_for, ev_brk, ev_cont, ev_frz, ev_kill, killR_nx, killR_rt, killR_bk, ev_never, endR_rt, endR_nx, evEs, evBs, evIt, evOp, evC, evR, evRs, bindR_ok, bindR_bad, bindR_exc, bind_ite, optR_some, optR_none, opt_ite, noexc_ok, startS, getB, getS, subV, subD, atI, ixN, setv, setvs, setAll, bindT, wipe, frz, ownS, ownL, truthV, cmpV, binV, isinstV, lenV, bltV, isNV, mthTy, optI, sz, r_road_of, d_road_of, wh, mp, mthV, tl, joinT_nil, flat_runs, sum_runs, e2, hz]
theorem t_road {n : Nat} (hn : 12 < n) (t : List Bool) (hl : t.length ≤ 2000) (h : MH) : T n 12 [fr (top t) (low t)] h = .ok (st t) h := by
  have c : gc (top t) (low t) = 1 := by simp only [gc, cop]; rfl
  rw [T_run hn rfl rfl]
  simp [-Res.bind, -List.map_map, -MP.opt, -Res.noexc, DR.def_, ev_var, ev_con, ev_glob, ev_bin, ev_neg, negR_int, ev_cmp, ev_chain, ev_isN, ev_notN, ev_band, ev_bor, ev_bnot, ev_ife, ev_tup, ev_lst, ev_newObj, ev_sub, ev_slice, ev_rev, ev_call, ev_blt, ev_meth, ev_isinst, ev_lrg, lrgR, ev_lrg2, lrgR2, ev_lc, ev_skip, ev_seq, seqR_nx, seqR_rt, seqR_bk, seqR_ct, ev_expr, ev_asg, ev_par, unpR, ev_unp, setIR, ev_setI, ev_setO, ev_app, extR, ev_ext, ev_ret, ev_if, ev_whl, ev_for, ev_brk, ev_cont, ev_frz, ev_kill, killR_nx, killR_rt, killR_bk, ev_never, endR_rt, endR_nx, evEs, evBs, evIt, evOp, evC, evR, evRs, bindR_ok, bindR_bad, bindR_exc, bind_ite, optR_some, optR_none, opt_ite, noexc_ok, startS, getB, getS, subV, subD, atI, ixN, setv, setvs, setAll, bindT, wipe, frz, ownS, ownL, truthV, cmpV, binV, isinstV, lenV, bltV, isNV, mthTy, optI, sz, r_road, d_road, t_check_above _ _ _ h (top_pos t) (low_pos t) c, t_road_of _ t hl]
end LawP
set_option maxHeartbeats 1000000
set_option autoImplicit false
namespace LawP
open MP
abbrev tv (m : M2) : Val := q4 m.p m.q m.r m.s
theorem body_tn (X : Sl) (h : MH) (m : M2) (b : Bool) : forB (T 10) ckP (.name 1) l1__law_turn (Val.str [sg b]) [X, .e, .v (.int m.p), .v (.int m.q), .v (.int m.r), .v (.int m.s)] h = .ok (.nx [X, .e, .v (.int (stp m b).p), .v (.int (stp m b).q), .v (.int (stp m b).r), .v (.int (stp m b).s)]) h := by
  cases b <;> simp [-Res.bind, -List.map_map, -MP.opt, -Res.noexc, DR.def_, ev_var, ev_con, ev_glob, ev_bin, ev_neg, negR_int, ev_cmp, ev_chain, ev_isN, ev_notN, ev_band, ev_bor, ev_bnot, ev_ife, ev_tup, ev_lst, ev_newObj, ev_sub, ev_slice, ev_rev, ev_call, ev_blt, ev_meth, ev_isinst, ev_lrg, lrgR, ev_lrg2, lrgR2, ev_lc, ev_skip, ev_seq, seqR_nx, seqR_rt, seqR_bk, seqR_ct, ev_expr, ev_asg, ev_par, unpR, ev_unp, setIR, ev_setI, ev_setO, ev_app, extR, ev_ext, ev_ret, ev_if, ev_whl, ev_for, ev_brk, ev_cont, ev_frz, ev_kill, killR_nx, killR_rt, killR_bk, ev_never, endR_rt, endR_nx, evEs, evBs, evIt, evOp, evC, evR, evRs, bindR_ok, bindR_bad, bindR_exc, bind_ite, optR_some, optR_none, opt_ite, noexc_ok, startS, getB, getS, subV, subD, atI, ixN, setv, setvs, setAll, bindT, wipe, frz, ownS, ownL, truthV, cmpV, binV, isinstV, lenV, bltV, isNV, mthTy, optI, sz, forB, l1__law_turn, sg, stp, eqo, pureLe, eqv]
theorem t_turn {n : Nat} (hn : 10 < n) (t : List Bool) (hl : t.length ≤ 2000) (h : MH) : T n 10 [st t] h = .ok (tv (trn t)) h := by
  have hs : t.length ≤ 16777216 := by omega
  have lp := loop_fold (g := fun m : M2 => [.v (st t), .e, .v (.int m.p), .v (.int m.q), .v (.int m.r), .v (.int m.s)]) (h := h) stp (fun b => Val.str [sg b]) (fun m b => body_tn (.v (st t)) h m b) t M2.one
  simp only [M2.one] at lp
  rw [T_run hn rfl rfl]
  simp [-Res.bind, -List.map_map, -MP.opt, -Res.noexc, DR.def_, ev_var, ev_con, ev_glob, ev_bin, ev_neg, negR_int, ev_cmp, ev_chain, ev_isN, ev_notN, ev_band, ev_bor, ev_bnot, ev_ife, ev_tup, ev_lst, ev_newObj, ev_sub, ev_slice, ev_rev, ev_call, ev_blt, ev_meth, ev_isinst, ev_lrg, lrgR, ev_lrg2, lrgR2, ev_lc, ev_skip, ev_seq, seqR_nx, seqR_rt, seqR_bk, seqR_ct, ev_expr, ev_asg, ev_par, unpR, ev_unp, setIR, ev_setI, ev_setO, ev_app, extR, ev_ext, ev_ret, ev_if, ev_whl, ev_for, ev_brk, ev_cont, ev_frz, ev_kill, killR_nx, killR_rt, killR_bk, ev_never, endR_rt, endR_nx, evEs, evBs, evIt, evOp, evC, evR, evRs, bindR_ok, bindR_bad, bindR_exc, bind_ite, optR_some, optR_none, opt_ite, noexc_ok, startS, getB, getS, subV, subD, atI, ixN, setv, setvs, setAll, bindT, wipe, frz, ownS, ownL, truthV, cmpV, binV, isinstV, lenV, bltV, isNV, mthTy, optI, sz, r__law_turn, d__law_turn, hs, map_st, lp, trn, M2.one]
theorem t_end {n : Nat} (hn : 11 < n) (t : List Bool) (hl : t.length ≤ 2000) (h : MH) : T n 11 [st t] h = .ok (fr (top t) (low t)) h := by
  rw [T_run hn rfl rfl]
  simp [-Res.bind, -List.map_map, -MP.opt, -Res.noexc, DR.def_, ev_var, ev_con, ev_glob, ev_bin, ev_neg, negR_int, ev_cmp, ev_chain, ev_isN, ev_notN, ev_band, ev_bor, ev_bnot, ev_ife, ev_tup, ev_lst, ev_newObj, ev_sub, ev_slice, ev_rev, ev_call, ev_blt, ev_meth, ev_isinst, ev_lrg, lrgR, ev_lrg2, lrgR2, ev_lc, ev_skip, ev_seq, seqR_nx, seqR_rt, seqR_bk, seqR_ct, ev_expr, ev_asg, ev_par, unpR, ev_unp, setIR, ev_setI, ev_setO, ev_app, extR, ev_ext, ev_ret, ev_if, ev_whl, ev_for, ev_brk, ev_cont, ev_frz, ev_kill, killR_nx, killR_rt, killR_bk, ev_never, endR_rt, endR_nx, evEs, evBs, evIt, evOp, evC, evR, evRs, bindR_ok, bindR_bad, bindR_exc, bind_ite, optR_some, optR_none, opt_ite, noexc_ok, startS, getB, getS, subV, subD, atI, ixN, setv, setvs, setAll, bindT, wipe, frz, ownS, ownL, truthV, cmpV, binV, isinstV, lenV, bltV, isNV, mthTy, optI, sz, r__law_end, d__law_end, t_turn _ t hl]
theorem t_by_road' {n : Nat} (hn : 1 < n) (t : List Bool) (hl : t.length ≤ 2000) (h : MH) : T n 1 [st t] h = .ok (fr (top t) (low t)) h := t_by_road hn t hl h
theorem sw_mp (t : List Bool) (h : MH) (X : Sl) : mapR (turnLc (T 15) [1] (.name 1) .no (.ife (.cmp .eq (.var 1) (.con (.str [82]))) (.con (.str [76])) (.con (.str [82]))) [X, .e]) (t.map fun b => Val.str [sg b]) h = .ok (t.map fun b => Val.str [sg (!b)]) h := by
  refine mapR_pure (fun b => Val.str [sg b]) _ t fun b _ => ?_
  cases b <;> simp [-Res.bind, -List.map_map, -MP.opt, -Res.noexc, DR.def_, ev_var, ev_con, ev_glob, ev_bin, ev_neg, negR_int, ev_cmp, ev_chain, ev_isN, ev_notN, ev_band, ev_bor, ev_bnot, ev_ife, ev_tup, ev_lst, ev_newObj, ev_sub, ev_slice, ev_rev, ev_call, ev_blt, ev_meth, ev_isinst, ev_lrg, lrgR, ev_lrg2, lrgR2, ev_lc, ev_skip, ev_seq, seqR_nx, seqR_rt, seqR_bk, seqR_ct, ev_expr, ev_asg, ev_par, unpR, ev_unp, setIR, ev_setI, ev_setO, ev_app, extR, ev_ext, ev_ret, ev_if, ev_whl, ev_for, ev_brk, ev_cont, ev_frz, ev_kill, killR_nx, killR_rt, killR_bk, ev_never, endR_rt, endR_nx, evEs, evBs, evIt, evOp, evC, evR, evRs, bindR_ok, bindR_bad, bindR_exc, bind_ite, optR_some, optR_none, opt_ite, noexc_ok, startS, getB, getS, subV, subD, atI, ixN, setv, setvs, setAll, bindT, wipe, frz, ownS, ownL, truthV, cmpV, binV, isinstV, lenV, bltV, isNV, mthTy, optI, sz, turnLc, sg, eqo, pureLe, eqv]
theorem sw_tl (t : List Bool) : textsOf (t.map fun b => Val.str [sg (!b)]) = some (t.map fun b => [sg (!b)]) := by
  rw [← textsOf_map, List.map_map]; rfl
theorem sw_fl : ∀ t : List Bool, (t.map fun b => [sg (!b)]).flatten = enc (t.map fun b => !b)
  | [] => rfl
  | b :: t => by rw [List.map_cons, List.flatten_cons, sw_fl t]; rfl
theorem sw_sm : ∀ t : List Bool, ((t.map fun b => [sg (!b)]).map (·.length)).sum = t.length
  | [] => rfl
  | b :: t => by rw [List.map_cons, List.map_cons, List.sum_cons, sw_sm t, List.length_cons]; simp [Nat.add_comm]
theorem t_swapped {n : Nat} (hn : 15 < n) (t : List Bool) (hl : t.length ≤ 2000) (h : MH) : T n 15 [st t] h = .ok (st (t.map fun b => !b)) h := by
  have hs : t.length ≤ 16777216 := by omega
  rw [T_run hn rfl rfl]
  simp [-Res.bind, -List.map_map, -MP.opt, -Res.noexc, DR.def_, ev_var, ev_con, ev_glob, ev_bin, ev_neg, negR_int, ev_cmp, ev_chain, ev_isN, ev_notN, ev_band, ev_bor, ev_bnot, ev_ife, ev_tup, ev_lst, ev_newObj, ev_sub, ev_slice, ev_rev, ev_call, ev_blt, ev_meth, ev_isinst, ev_lrg, lrgR, ev_lrg2, lrgR2, ev_lc, ev_skip, ev_seq, seqR_nx, seqR_rt, seqR_bk, seqR_ct, ev_expr, ev_asg, ev_par, unpR, ev_unp, setIR, ev_setI, ev_setO, ev_app, extR, ev_ext, ev_ret, ev_if, ev_whl, ev_for, ev_brk, ev_cont, ev_frz, ev_kill, killR_nx, killR_rt, killR_bk, ev_never, endR_rt, endR_nx, evEs, evBs, evIt, evOp, evC, evR, evRs, bindR_ok, bindR_bad, bindR_exc, bind_ite, optR_some, optR_none, opt_ite, noexc_ok, startS, getB, getS, subV, subD, atI, ixN, setv, setvs, setAll, bindT, wipe, frz, ownS, ownL, truthV, cmpV, binV, isinstV, lenV, bltV, isNV, mthTy, optI, sz, r__law_swapped, d__law_swapped, hs, map_st, sw_mp, mthV, sw_tl, joinT_nil, sw_fl, sw_sm]
theorem enc_rev (t : List Bool) : (enc t).reverse = enc t.reverse := by
  simp [enc]
def M2.tr (m : M2) : M2 := ⟨m.s, m.q, m.r, m.p⟩
theorem tr_mul (a b : M2) : (a.mul b).tr = b.tr.mul a.tr := by
  simp only [M2.mul, M2.tr, M2.mk.injEq]
  refine ⟨?_, ?_, ?_, ?_⟩ <;> simp only [Int.mul_comm] <;> omega
theorem trn_reverse : ∀ t : List Bool, trn t.reverse = (trn t).tr
  | [] => rfl
  | b :: t => by
    rw [List.reverse_cons, trn_append, trn_reverse t, trn_cons b t, tr_mul]
    congr 1
    cases b <;> rfl
def M2.ex (m : M2) : M2 := ⟨m.s, m.r, m.q, m.p⟩
theorem ex_mul (a b : M2) : (a.mul b).ex = a.ex.mul b.ex := by
  simp only [M2.mul, M2.ex, M2.mk.injEq]
  refine ⟨?_, ?_, ?_, ?_⟩ <;> omega
theorem trn_not : ∀ t : List Bool, trn (t.map fun b => !b) = (trn t).ex
  | [] => rfl
  | b :: t => by
    rw [List.map_cons, trn_cons, trn_not t, trn_cons b t, ex_mul]
    congr 1
    cases b <;> rfl
theorem back_law (t : List Bool) : top t.reverse = (trn t).s + (trn t).q ∧ low t.reverse = (trn t).r + (trn t).p ∧ top (t.reverse.map fun b => !b) = low t.reverse ∧ low (t.reverse.map fun b => !b) = top t.reverse := by
  simp only [top, low, trn_not, trn_reverse, M2.tr, M2.ex]
  refine ⟨trivial, trivial, ?_, ?_⟩ <;> omega
theorem t_back {n : Nat} (hn : 16 < n) (t : List Bool) (hl : t.length ≤ 1000) (h : MH) : T n 16 [st t] h = .ok (.bl true) h := by
  obtain ⟨b1, b2, b3, b4⟩ := back_law t
  have d := det_trn t
  have ps := pos_trn t
  simp only [M2.det] at d
  have hs : t.length ≤ 16777216 := by omega
  have tp := top_pos t
  have lp := low_pos t
  have s1 := top_sm t (by omega)
  have s2 := low_sm t (by omega)
  have s3 := top_sm t.reverse (by simp; omega)
  have s4 := low_sm t.reverse (by simp; omega)
  have e1 : top t.reverse + low t.reverse = top t + low t := by rw [b1, b2]; simp only [top, low]; omega
  have e2 : (top t * low t.reverse + 1).fmod (top t + low t) = 0 := by
    have : top t * low t.reverse + 1 = (top t + low t) * (trn t).p := by
      rw [b2]
      simp only [top, low, Int.mul_add, Int.add_mul]
      have := Int.mul_comm (trn t).p (trn t).s
      have := Int.mul_comm (trn t).p (trn t).r
      have := Int.mul_comm (trn t).p (trn t).q
      omega
    rw [this]; exact Int.mul_fmod_right ..
  have e3 : (top t * top t.reverse - 1).fmod (top t + low t) = 0 := by
    have : top t * top t.reverse - 1 = (top t + low t) * (trn t).q := by
      rw [b1]
      simp only [top, low, Int.mul_add, Int.add_mul]
      have := Int.mul_comm (trn t).q (trn t).s
      have := Int.mul_comm (trn t).q (trn t).r
      have := Int.mul_comm (trn t).q (trn t).p
      omega
    rw [this]; exact Int.mul_fmod_right ..
  have n0 : ¬ (top t + low t = 0) := by omega
  have er : (enc t).reverse = enc t.reverse := enc_rev t
  have l1 : t.reverse.length ≤ 2000 := by simp; omega
  have l2 : (t.reverse.map fun b => !b).length ≤ 2000 := by simp; omega
  rw [T_run hn rfl rfl]
  simp [-Res.bind, -List.map_map, -MP.opt, -Res.noexc, DR.def_, ev_var, ev_con, ev_glob, ev_bin, ev_neg, negR_int, ev_cmp, ev_chain, ev_isN, ev_notN, ev_band, ev_bor, ev_bnot, ev_ife, ev_tup, ev_lst, ev_newObj, ev_sub, ev_slice, ev_rev, ev_call, ev_blt, ev_meth, ev_isinst, ev_lrg, lrgR, ev_lrg2, lrgR2, ev_lc, ev_skip, ev_seq, seqR_nx, seqR_rt, seqR_bk, seqR_ct, ev_expr, ev_asg, ev_par, unpR, ev_unp, setIR, ev_setI, ev_setO, ev_app, extR, ev_ext, ev_ret, ev_if, ev_whl, ev_for, ev_brk, ev_cont, ev_frz, ev_kill, killR_nx, killR_rt, killR_bk, ev_never, endR_rt, endR_nx, evEs, evBs, evIt, evOp, evC, evR, evRs, bindR_ok, bindR_bad, bindR_exc, bind_ite, optR_some, optR_none, opt_ite, noexc_ok, startS, getB, getS, subV, subD, atI, ixN, setv, setvs, setAll, bindT, wipe, frz, ownS, ownL, truthV, cmpV, binV, isinstV, lenV, bltV, isNV, mthTy, optI, sz, r__law_is_back_right, d__law_is_back_right, revV, hs, t_by_road' _ t (by omega), t_by_road' _ t.reverse l1, t_swapped _ t.reverse l1, t_by_road' _ _ l2, er, t_end _ t (by omega), t_end _ t.reverse l1, b3, b4, e1, eqo, pureLe, purLes, eqv, eqvs, Sm.m s1 s4, Sm.m s1 s3, n0, e2, e3, -List.map_reverse]
end LawP
set_option maxHeartbeats 1000000
set_option autoImplicit false
namespace LawP
open MP
def rt (a c : Int) : Int := a.fdiv (gc a c)
def rl (a c : Int) : Int := c.fdiv (gc a c)
abbrev rd (a c : Int) : Val := rn (rt a c) (rl a c)
theorem gc_pos {a c : Int} (hc : 0 < c) : 0 < gc a c := by
  have := gc_ne (a := a) (b := c) (by omega)
  simp only [gc] at *
  omega
theorem gc_dl (a c : Int) : gc a c ∣ a := Int.gcd_dvd_left ..
theorem gc_dr (a c : Int) : gc a c ∣ c := Int.gcd_dvd_right ..
theorem rt_mul {a c : Int} (hc : 0 < c) : rt a c * gc a c = a := by
  unfold rt
  rw [Int.fdiv_eq_ediv_of_nonneg _ (by have := gc_pos (a := a) hc; omega)]
  exact Int.ediv_mul_cancel (gc_dl a c)
theorem rl_mul {a c : Int} (hc : 0 < c) : rl a c * gc a c = c := by
  unfold rl
  rw [Int.fdiv_eq_ediv_of_nonneg _ (by have := gc_pos (a := a) hc; omega)]
  exact Int.ediv_mul_cancel (gc_dr a c)
theorem rl_pos {a c : Int} (hc : 0 < c) : 0 < rl a c := by
  have h1 := rl_mul (a := a) hc
  have h2 := gc_pos (a := a) hc
  rcases Int.lt_trichotomy (rl a c) 0 with h | h | h
  · have := Int.mul_neg_of_neg_of_pos h h2; omega
  · rw [h] at h1; omega
  · exact h
theorem gc_mul {a c k : Int} (hk : 0 < k) : gc (a * k) (c * k) = gc a c * k := by
  simp only [gc, Int.natAbs_mul, Nat.gcd_mul_right, Int.natCast_mul]
  congr 1
  omega
theorem rt_scale {a c k : Int} (hc : 0 < c) (hk : 0 < k) : rt (a * k) (c * k) = rt a c ∧ rl (a * k) (c * k) = rl a c := by
  have g0 := gc_pos (a := a) hc
  have hck : 0 < c * k := Int.mul_pos hc hk
  constructor
  · have h1 := rt_mul (a := a * k) hck
    have h2 := rt_mul (a := a) hc
    rw [gc_mul hk, ← Int.mul_assoc] at h1
    have h3 := Int.eq_of_mul_eq_mul_right (by omega) h1
    have : rt (a * k) (c * k) * gc a c = rt a c * gc a c := by rw [h3, h2]
    exact Int.eq_of_mul_eq_mul_right (by omega) this
  · have h1 := rl_mul (a := a * k) hck
    have h2 := rl_mul (a := a) hc
    rw [gc_mul hk, ← Int.mul_assoc] at h1
    have h3 := Int.eq_of_mul_eq_mul_right (by omega) h1
    have : rl (a * k) (c * k) * gc a c = rl a c * gc a c := by rw [h3, h2]
    exact Int.eq_of_mul_eq_mul_right (by omega) this
theorem rd_scale {a c k : Int} (hc : 0 < c) (hk : 0 < k) : rd (a * k) (c * k) = rd a c := by
  obtain ⟨h1, h2⟩ := rt_scale (a := a) hc hk
  simp only [rd, h1, h2]
theorem rd_cop {a c : Int} (h : gc a c = 1) : rd a c = rn a c := by
  simp only [rd, rt, rl, h, Int.fdiv_one]
theorem cop_rt {a c : Int} (hc : 0 < c) : gc (rt a c) (rl a c) = 1 := by
  have g0 := gc_pos (a := a) hc
  have := gc_mul (a := rt a c) (c := rl a c) g0
  rw [rt_mul hc, rl_mul hc] at this
  have h2 : gc (rt a c) (rl a c) * gc a c = 1 * gc a c := by omega
  exact Int.eq_of_mul_eq_mul_right (by omega) h2
theorem abs_le_of_mul {x g a : Int} (h : x * g = a) (hg : 0 < g) : x.natAbs ≤ a.natAbs := by
  rw [← h, Int.natAbs_mul]
  exact Nat.le_mul_of_pos_right _ (by omega)
theorem rt_sm {k : Nat} {a c : Int} (hc : 0 < c) (ha : Lt k a) : Lt k (rt a c) := Nat.lt_of_le_of_lt (abs_le_of_mul (rt_mul hc) (gc_pos hc)) ha
theorem rl_sm {k : Nat} {a c : Int} (hc : 0 < c) (h : Lt k c) : Lt k (rl a c) := Nat.lt_of_le_of_lt (abs_le_of_mul (rl_mul hc) (gc_pos hc)) h
abbrev S1 (x : Int) : Prop := Lt 1900 x
theorem S1.sm {x : Int} (h : S1 x) : Sm x := h.mono (by omega)
theorem S1.mul {x y : Int} (h : S1 x) (h' : S1 y) : Sm (x * y) := (Lt.mul h h').mono (by omega)
theorem u_least {n : Nat} (hn : 27 < n) (a c : Int) (h : MH) (hc : 0 < c) (sc : Sm c) : T n 27 [.int a, .int 0, .int c, .int 0] h = .ok (rd a c) h := t_least_form hn a c h hc sc
theorem u_summed {n : Nat} (hn : 28 < n) (a c b d : Int) (h : MH) (hc : 0 < c) (hd : 0 < d) (sa : S1 a) (sc : S1 c) (sb : S1 b) (sd : S1 d) : T n 28 [rd a c, rd b d] h = .ok (rd (a * d + b * c) (c * d)) h := by
  have p1 := rl_pos (a := a) hc
  have p2 := rl_pos (a := b) hd
  have g1 := gc_pos (a := a) hc
  have g2 := gc_pos (a := b) hd
  have e := t_summed hn (rt a c) (rl a c) (rt b d) (rl b d) h (S1.sm (rt_sm hc sa)) (S1.sm (rl_sm hc sc)) (S1.sm (rt_sm hd sb)) (S1.sm (rl_sm hd sd)) (Int.mul_pos p1 p2) (S1.mul (rl_sm hc sc) (rl_sm hd sd))
  have k := rd_scale (a := rt a c * rl b d + rt b d * rl a c) (c := rl a c * rl b d) (k := gc a c * gc b d) (Int.mul_pos p1 p2) (Int.mul_pos g1 g2)
  have e1 : (rt a c * rl b d + rt b d * rl a c) * (gc a c * gc b d) = a * d + b * c := by
    rw [Int.add_mul]
    have x1 : rt a c * rl b d * (gc a c * gc b d) = (rt a c * gc a c) * (rl b d * gc b d) := by simp only [Int.mul_assoc, Int.mul_comm, Int.mul_left_comm]
    have x2 : rt b d * rl a c * (gc a c * gc b d) = (rt b d * gc b d) * (rl a c * gc a c) := by simp only [Int.mul_assoc, Int.mul_comm, Int.mul_left_comm]
    rw [x1, x2, rt_mul hc, rl_mul hd, rt_mul hd, rl_mul hc]
  have e2 : rl a c * rl b d * (gc a c * gc b d) = c * d := by
    have x1 : rl a c * rl b d * (gc a c * gc b d) = (rl a c * gc a c) * (rl b d * gc b d) := by simp only [Int.mul_assoc, Int.mul_comm, Int.mul_left_comm]
    rw [x1, rl_mul hc, rl_mul hd]
  rw [e1, e2] at k
  rw [k]
  exact e
theorem u_multiplied {n : Nat} (hn : 31 < n) (a c b d : Int) (h : MH) (hc : 0 < c) (hd : 0 < d) (sa : S1 a) (sc : S1 c) (sb : S1 b) (sd : S1 d) : T n 31 [rd a c, rd b d] h = .ok (rd (a * b) (c * d)) h := by
  have p1 := rl_pos (a := a) hc
  have p2 := rl_pos (a := b) hd
  have g1 := gc_pos (a := a) hc
  have g2 := gc_pos (a := b) hd
  have e := t_multiplied hn (rt a c) (rl a c) (rt b d) (rl b d) h (S1.sm (rt_sm hc sa)) (S1.sm (rl_sm hc sc)) (S1.sm (rt_sm hd sb)) (S1.sm (rl_sm hd sd)) (Int.mul_pos p1 p2) (S1.mul (rl_sm hc sc) (rl_sm hd sd))
  have k := rd_scale (a := rt a c * rt b d) (c := rl a c * rl b d) (k := gc a c * gc b d) (Int.mul_pos p1 p2) (Int.mul_pos g1 g2)
  have e1 : rt a c * rt b d * (gc a c * gc b d) = a * b := by
    have x1 : rt a c * rt b d * (gc a c * gc b d) = (rt a c * gc a c) * (rt b d * gc b d) := by simp only [Int.mul_assoc, Int.mul_comm, Int.mul_left_comm]
    rw [x1, rt_mul hc, rt_mul hd]
  have e2 : rl a c * rl b d * (gc a c * gc b d) = c * d := by
    have x1 : rl a c * rl b d * (gc a c * gc b d) = (rl a c * gc a c) * (rl b d * gc b d) := by simp only [Int.mul_assoc, Int.mul_comm, Int.mul_left_comm]
    rw [x1, rl_mul hc, rl_mul hd]
  rw [e1, e2] at k
  rw [k]
  exact e
theorem u_many {n : Nat} (hn : 29 < n) (a c m : Int) (h : MH) (hc : 0 < c) (sa : S1 a) (sc : S1 c) (sm : S1 m) : T n 29 [rd a c, .int m] h = .ok (rd (a * m) c) h := by
  have p1 := rl_pos (a := a) hc
  have g1 := gc_pos (a := a) hc
  have e := t_many_times hn (rt a c) (rl a c) m h (S1.sm (rt_sm hc sa)) (S1.sm (rl_sm hc sc)) sm.sm p1
  have k := rd_scale (a := rt a c * m) (c := rl a c) (k := gc a c) p1 g1
  have e1 : rt a c * m * gc a c = a * m := by
    have x1 : rt a c * m * gc a c = (rt a c * gc a c) * m := by simp only [Int.mul_assoc, Int.mul_comm, Int.mul_left_comm]
    rw [x1, rt_mul hc]
  rw [e1, rl_mul hc] at k
  rw [k]
  exact e
theorem u_line {n : Nat} (hn : 42 < n) (a c p q : Int) (h : MH) (hc : 0 < c) (sa : S1 a) (sc : S1 c) (sp : S1 p) (sq : S1 q) : T n 42 [rd a c, .int p, .int q] h = .ok (rd (a * p + q * c) c) h := by
  have p1 := rl_pos (a := a) hc
  have g1 := gc_pos (a := a) hc
  have e := t_line hn (rt a c) (rl a c) p q h (S1.sm (rt_sm hc sa)) (S1.sm (rl_sm hc sc)) sp.sm sq.sm p1
  have k := rd_scale (a := rt a c * p + q * rl a c) (c := rl a c) (k := gc a c) p1 g1
  have e1 : (rt a c * p + q * rl a c) * gc a c = a * p + q * c := by
    rw [Int.add_mul]
    have x1 : rt a c * p * gc a c = (rt a c * gc a c) * p := by simp only [Int.mul_assoc, Int.mul_comm, Int.mul_left_comm]
    rw [x1, rt_mul hc, Int.mul_assoc, rl_mul hc]
  rw [e1, rl_mul hc] at k
  rw [k]
  exact e
theorem u_floor {n : Nat} (hn : 26 < n) (a c : Int) (h : MH) (hc : 0 < c) (sc : S1 c) : T n 26 [rd a c] h = .ok (.int (a.fdiv c)) h := by
  have p1 := rl_pos (a := a) hc
  have g1 := gc_pos (a := a) hc
  have e := t_floor_of hn (rt a c) (rl a c) h (S1.sm (rl_sm hc sc)) (by omega)
  have e1 : a.fdiv c = (rt a c).fdiv (rl a c) := by
    have h1 := rt_mul (a := a) hc
    have h2 := rl_mul (a := a) hc
    rw [Int.fdiv_eq_ediv_of_nonneg _ (by omega), Int.fdiv_eq_ediv_of_nonneg _ (by omega)]
    have : a / c = (rt a c * gc a c) / (rl a c * gc a c) := by rw [h1, h2]
    rw [this, Int.mul_ediv_mul_of_pos_left _ _ g1]
  rw [e1]; exact e
theorem u_inverted {n : Nat} (hn : 32 < n) (a c : Int) (h : MH) (hc : 0 < c) (ha : 0 < a) (sa : S1 a) (sc : S1 c) : T n 32 [rd a c] h = .ok (rd c a) h := by
  have p1 := rl_pos (a := a) hc
  have g1 := gc_pos (a := a) hc
  have h1 := rt_mul (a := a) hc
  have h2 := rl_mul (a := a) hc
  have p0 : 0 < rt a c := by
    rcases Int.lt_trichotomy (rt a c) 0 with h | h | h
    · have := Int.mul_neg_of_neg_of_pos h g1; omega
    · rw [h] at h1; omega
    · exact h
  have e := t_inverted hn (rt a c) (rl a c) h (S1.sm (rt_sm hc sa)) (S1.sm (rl_sm hc sc)) (Int.mul_pos p0 p0) (S1.mul (rt_sm hc sa) (rt_sm hc sa))
  have k := rd_scale (a := rl a c) (c := rt a c) (k := rt a c) p0 p0
  have k2 := rd_scale (a := rl a c) (c := rt a c) (k := gc a c) p0 g1
  rw [h1, h2] at k2
  rw [Int.mul_comm (rl a c) (rt a c)] at k
  rw [k2, ← k]
  exact e
end LawP
set_option maxHeartbeats 1000000
set_option autoImplicit false
namespace LawP
open MP
structure TSm (m : M2) : Prop where
  det : m.det = 1
  p1 : 1 ≤ m.p
  q0 : 0 ≤ m.q
  r0 : 0 ≤ m.r
  s1 : 1 ≤ m.s
  sp : Lt 900 m.p
  sq : Lt 900 m.q
  sr : Lt 900 m.r
  ss : Lt 900 m.s
theorem tsm_trn (t : List Bool) (hl : t.length ≤ 800) : TSm (trn t) := by
  have ps := pos_trn t
  obtain ⟨h1, h2, h3, h4, h5, h6, h7, h8⟩ := ps
  have b : ∀ x : Int, 0 ≤ x → x ≤ 2 ^ t.length → Lt 900 x := fun x h0 hx => Lt.mono (k := t.length + 1) (pos_lt h0 (by have : (0 : Int) < 2 ^ t.length := Int.pow_pos (by omega); rw [Int.pow_succ]; omega)) (by omega)
  exact ⟨det_trn t, h1, h2, h3, h4, b _ (by omega) (by omega), b _ (by omega) (by omega), b _ (by omega) (by omega), b _ (by omega) (by omega)⟩
theorem t_is_turn {n : Nat} (hn : 22 < n) (m : M2) (h : MH) (t : TSm m) : T n 22 [tv m] h = .ok (.bl true) h := by
  have d := t.det
  simp only [M2.det] at d
  have ne : ¬ m.p * m.s = m.q * m.r := by omega
  have m1 := t.sp.mulOk t.ss (by omega)
  have m2 := t.sq.mulOk t.sr (by omega)
  rw [T_run hn rfl rfl]
  simp [-Res.bind, -List.map_map, -MP.opt, -Res.noexc, DR.def_, ev_var, ev_con, ev_glob, ev_bin, ev_neg, negR_int, ev_cmp, ev_chain, ev_isN, ev_notN, ev_band, ev_bor, ev_bnot, ev_ife, ev_tup, ev_lst, ev_newObj, ev_sub, ev_slice, ev_rev, ev_call, ev_blt, ev_meth, ev_isinst, ev_lrg, lrgR, ev_lrg2, lrgR2, ev_lc, ev_skip, ev_seq, seqR_nx, seqR_rt, seqR_bk, seqR_ct, ev_expr, ev_asg, ev_par, unpR, ev_unp, setIR, ev_setI, ev_setO, ev_app, extR, ev_ext, ev_ret, ev_if, ev_whl, ev_for, ev_brk, ev_cont, ev_frz, ev_kill, killR_nx, killR_rt, killR_bk, ev_never, endR_rt, endR_nx, evEs, evBs, evIt, evOp, evC, evR, evRs, bindR_ok, bindR_bad, bindR_exc, bind_ite, optR_some, optR_none, opt_ite, noexc_ok, startS, getB, getS, subV, subD, atI, ixN, setv, setvs, setAll, bindT, wipe, frz, ownS, ownL, truthV, cmpV, binV, isinstV, lenV, bltV, isNV, mthTy, optI, sz, r_is_turn, d_is_turn, mapR, turnLc, t_is_integer, boolsOf, eqo, pureLe, eqv, m1, m2, ne]
theorem t_check_turn {n : Nat} (hn : 23 < n) (m : M2) (h : MH) (t : TSm m) : T n 23 [tv m] h = .ok .non h := by
  rw [T_run hn rfl rfl]
  simp [-Res.bind, -List.map_map, -MP.opt, -Res.noexc, DR.def_, ev_var, ev_con, ev_glob, ev_bin, ev_neg, negR_int, ev_cmp, ev_chain, ev_isN, ev_notN, ev_band, ev_bor, ev_bnot, ev_ife, ev_tup, ev_lst, ev_newObj, ev_sub, ev_slice, ev_rev, ev_call, ev_blt, ev_meth, ev_isinst, ev_lrg, lrgR, ev_lrg2, lrgR2, ev_lc, ev_skip, ev_seq, seqR_nx, seqR_rt, seqR_bk, seqR_ct, ev_expr, ev_asg, ev_par, unpR, ev_unp, setIR, ev_setI, ev_setO, ev_app, extR, ev_ext, ev_ret, ev_if, ev_whl, ev_for, ev_brk, ev_cont, ev_frz, ev_kill, killR_nx, killR_rt, killR_bk, ev_never, endR_rt, endR_nx, evEs, evBs, evIt, evOp, evC, evR, evRs, bindR_ok, bindR_bad, bindR_exc, bind_ite, optR_some, optR_none, opt_ite, noexc_ok, startS, getB, getS, subV, subD, atI, ixN, setv, setvs, setAll, bindT, wipe, frz, ownS, ownL, truthV, cmpV, binV, isinstV, lenV, bltV, isNV, mthTy, optI, sz, r_check_turn, d_check_turn, t_is_turn _ m h t]
theorem gcd4 {m : M2} (d : m.det = 1) : Nat.gcd (Nat.gcd m.p.natAbs m.q.natAbs) (Nat.gcd m.r.natAbs m.s.natAbs) = 1 := by
  have g : ∀ x : Int, (Nat.gcd (Nat.gcd m.p.natAbs m.q.natAbs) (Nat.gcd m.r.natAbs m.s.natAbs)) ∣ x.natAbs → ((Nat.gcd (Nat.gcd m.p.natAbs m.q.natAbs) (Nat.gcd m.r.natAbs m.s.natAbs) : Nat) : Int) ∣ x := fun x hx => Int.ofNat_dvd_left.mpr hx
  have h1 := g m.p (Nat.dvd_trans (Nat.gcd_dvd_left _ _) (Nat.gcd_dvd_left _ _))
  have h2 := g m.q (Nat.dvd_trans (Nat.gcd_dvd_left _ _) (Nat.gcd_dvd_right _ _))
  have h3 : ((Nat.gcd (Nat.gcd m.p.natAbs m.q.natAbs) (Nat.gcd m.r.natAbs m.s.natAbs) : Nat) : Int) ∣ 1 := by
    rw [← d, M2.det]
    exact Int.dvd_sub (Int.dvd_trans h1 (Int.dvd_mul_right ..)) (Int.dvd_trans h2 (Int.dvd_mul_right ..))
  have := Int.eq_one_of_dvd_one (by omega) h3
  omega
theorem t_least_turn {n : Nat} (hn : 24 < n) (m : M2) (h : MH) (d : m.det = 1) (r0 : 0 ≤ m.r) (s1 : 1 ≤ m.s) : T n 24 [tv m] h = .ok (tv m) h := by
  have g := gcd4 d
  have d1 : divOk 1 = true := by decide
  have s0 : ¬ m.s = 0 := by omega
  have s0' : 0 < m.s := by omega
  rw [T_run hn rfl rfl]
  by_cases hr : m.r = 0
  · have g' : Nat.gcd (Nat.gcd m.p.natAbs m.q.natAbs) m.s.natAbs = 1 := by
      have := g
      rw [hr] at this
      simpa using this
    simp [-Res.bind, -List.map_map, -MP.opt, -Res.noexc, DR.def_, ev_var, ev_con, ev_glob, ev_bin, ev_neg, negR_int, ev_cmp, ev_chain, ev_isN, ev_notN, ev_band, ev_bor, ev_bnot, ev_ife, ev_tup, ev_lst, ev_newObj, ev_sub, ev_slice, ev_rev, ev_call, ev_blt, ev_meth, ev_isinst, ev_lrg, lrgR, ev_lrg2, lrgR2, ev_lc, ev_skip, ev_seq, seqR_nx, seqR_rt, seqR_bk, seqR_ct, ev_expr, ev_asg, ev_par, unpR, ev_unp, setIR, ev_setI, ev_setO, ev_app, extR, ev_ext, ev_ret, ev_if, ev_whl, ev_for, ev_brk, ev_cont, ev_frz, ev_kill, killR_nx, killR_rt, killR_bk, ev_never, endR_rt, endR_nx, evEs, evBs, evIt, evOp, evC, evR, evRs, bindR_ok, bindR_bad, bindR_exc, bind_ite, optR_some, optR_none, opt_ite, noexc_ok, startS, getB, getS, subV, subD, atI, ixN, setv, setvs, setAll, bindT, wipe, frz, ownS, ownL, truthV, cmpV, binV, isinstV, lenV, bltV, isNV, mthTy, optI, sz, r_least_turn, d_least_turn, mapR, turnLc, eqo, pureLe, eqv, g', d1, hr, s0, s0', tv]
  · have r0' : 0 < m.r := by omega
    simp [-Res.bind, -List.map_map, -MP.opt, -Res.noexc, DR.def_, ev_var, ev_con, ev_glob, ev_bin, ev_neg, negR_int, ev_cmp, ev_chain, ev_isN, ev_notN, ev_band, ev_bor, ev_bnot, ev_ife, ev_tup, ev_lst, ev_newObj, ev_sub, ev_slice, ev_rev, ev_call, ev_blt, ev_meth, ev_isinst, ev_lrg, lrgR, ev_lrg2, lrgR2, ev_lc, ev_skip, ev_seq, seqR_nx, seqR_rt, seqR_bk, seqR_ct, ev_expr, ev_asg, ev_par, unpR, ev_unp, setIR, ev_setI, ev_setO, ev_app, extR, ev_ext, ev_ret, ev_if, ev_whl, ev_for, ev_brk, ev_cont, ev_frz, ev_kill, killR_nx, killR_rt, killR_bk, ev_never, endR_rt, endR_nx, evEs, evBs, evIt, evOp, evC, evR, evRs, bindR_ok, bindR_bad, bindR_exc, bind_ite, optR_some, optR_none, opt_ite, noexc_ok, startS, getB, getS, subV, subD, atI, ixN, setv, setvs, setAll, bindT, wipe, frz, ownS, ownL, truthV, cmpV, binV, isinstV, lenV, bltV, isNV, mthTy, optI, sz, r_least_turn, d_least_turn, mapR, turnLc, eqo, pureLe, eqv, g, d1, hr, s0, s0', r0']
theorem t_after {n : Nat} (hn : 25 < n) (a b : M2) (h : MH) (ta : TSm a) (tb : TSm b) : T n 25 [tv a, tv b] h = .ok (tv (a.mul b)) h := by
  have lt := t_least_turn (n := 25) (by omega) (a.mul b) h (by rw [det_mul, ta.det, tb.det]; rfl) (by simp only [M2.mul]; have := Int.mul_nonneg ta.r0 (show 0 ≤ b.p by have := tb.p1; omega); have := Int.mul_nonneg (show 0 ≤ a.s by have := ta.s1; omega) tb.r0; omega) (by simp only [M2.mul]; have := Int.mul_nonneg ta.r0 tb.q0; have := Int.mul_le_mul ta.s1 tb.s1 (by omega) (by have := ta.s1; omega); omega)
  simp only [M2.mul] at lt ⊢
  rw [T_run hn rfl rfl]
  simp [-Res.bind, -List.map_map, -MP.opt, -Res.noexc, DR.def_, ev_var, ev_con, ev_glob, ev_bin, ev_neg, negR_int, ev_cmp, ev_chain, ev_isN, ev_notN, ev_band, ev_bor, ev_bnot, ev_ife, ev_tup, ev_lst, ev_newObj, ev_sub, ev_slice, ev_rev, ev_call, ev_blt, ev_meth, ev_isinst, ev_lrg, lrgR, ev_lrg2, lrgR2, ev_lc, ev_skip, ev_seq, seqR_nx, seqR_rt, seqR_bk, seqR_ct, ev_expr, ev_asg, ev_par, unpR, ev_unp, setIR, ev_setI, ev_setO, ev_app, extR, ev_ext, ev_ret, ev_if, ev_whl, ev_for, ev_brk, ev_cont, ev_frz, ev_kill, killR_nx, killR_rt, killR_bk, ev_never, endR_rt, endR_nx, evEs, evBs, evIt, evOp, evC, evR, evRs, bindR_ok, bindR_bad, bindR_exc, bind_ite, optR_some, optR_none, opt_ite, noexc_ok, startS, getB, getS, subV, subD, atI, ixN, setv, setvs, setAll, bindT, wipe, frz, ownS, ownL, truthV, cmpV, binV, isinstV, lenV, bltV, isNV, mthTy, optI, sz, r_after, d_after, t_check_turn _ a h ta, t_check_turn _ b h tb, ta.sp.mulOk tb.sp, ta.sq.mulOk tb.sr, ta.sp.mulOk tb.sq, ta.sq.mulOk tb.ss, ta.sr.mulOk tb.sp, ta.ss.mulOk tb.sr, ta.sr.mulOk tb.sq, ta.ss.mulOk tb.ss, lt]
theorem t_turned_by {n : Nat} (hn : 43 < n) (m : M2) (a b : Int) (h : MH) (t : TSm m) (ha : 1 ≤ a) (hb : 1 ≤ b) (sa : Lt 900 a) (sb : Lt 900 b) (c : gc a b = 1) (c2 : gc (a * m.p + m.q * b) (a * m.r + m.s * b) = 1) : T n 43 [rn a b, tv m] h = .ok (rn (a * m.p + m.q * b) (a * m.r + m.s * b)) h := by
  have l1 := u_line (n := 43) (by omega) a b m.p m.q h (by omega) (sa.mono (by omega)) (sb.mono (by omega)) (t.sp.mono (by omega)) (t.sq.mono (by omega))
  have l2 := u_line (n := 43) (by omega) a b m.r m.s h (by omega) (sa.mono (by omega)) (sb.mono (by omega)) (t.sr.mono (by omega)) (t.ss.mono (by omega))
  rw [rd_cop c] at l1 l2
  have x0 : 0 < a * m.p + m.q * b := by
    have := Int.mul_le_mul ha t.p1 (by omega) (by omega)
    have := Int.mul_nonneg t.q0 (show 0 ≤ b by omega)
    omega
  have y0 : 0 < a * m.r + m.s * b := by
    have := Int.mul_nonneg (show 0 ≤ a by omega) t.r0
    have := Int.mul_le_mul t.s1 hb (by omega) (by have := t.s1; omega)
    omega
  have sx : S1 (a * m.p + m.q * b) := (Lt.add (k := 1800) (Lt.mul sa t.sp) (Lt.mul t.sq sb)).mono (by omega)
  have sy : S1 (a * m.r + m.s * b) := (Lt.add (k := 1800) (Lt.mul sa t.sr) (Lt.mul t.ss sb)).mono (by omega)
  have sb1 : S1 b := sb.mono (by omega)
  have i1 := u_inverted (n := 43) (by omega) (a * m.r + m.s * b) b h (by omega) y0 sy sb1
  have m1 := u_multiplied (n := 43) (by omega) (a * m.p + m.q * b) b b (a * m.r + m.s * b) h (by omega) y0 sx sb1 sb1 sy
  have e : rd ((a * m.p + m.q * b) * b) (b * (a * m.r + m.s * b)) = rn (a * m.p + m.q * b) (a * m.r + m.s * b) := by
    rw [Int.mul_comm b (a * m.r + m.s * b), rd_scale y0 (by omega), rd_cop c2]
  rw [e] at m1
  have nz : rt (a * m.r + m.s * b) b ≠ 0 := fun z => by
    have := rt_mul (a := a * m.r + m.s * b) (c := b) (by omega)
    rw [z] at this; omega
  rw [T_run hn rfl rfl]
  simp [-Res.bind, -List.map_map, -MP.opt, -Res.noexc, DR.def_, ev_var, ev_con, ev_glob, ev_bin, ev_neg, negR_int, ev_cmp, ev_chain, ev_isN, ev_notN, ev_band, ev_bor, ev_bnot, ev_ife, ev_tup, ev_lst, ev_newObj, ev_sub, ev_slice, ev_rev, ev_call, ev_blt, ev_meth, ev_isinst, ev_lrg, lrgR, ev_lrg2, lrgR2, ev_lc, ev_skip, ev_seq, seqR_nx, seqR_rt, seqR_bk, seqR_ct, ev_expr, ev_asg, ev_par, unpR, ev_unp, setIR, ev_setI, ev_setO, ev_app, extR, ev_ext, ev_ret, ev_if, ev_whl, ev_for, ev_brk, ev_cont, ev_frz, ev_kill, killR_nx, killR_rt, killR_bk, ev_never, endR_rt, endR_nx, evEs, evBs, evIt, evOp, evC, evR, evRs, bindR_ok, bindR_bad, bindR_exc, bind_ite, optR_some, optR_none, opt_ite, noexc_ok, startS, getB, getS, subV, subD, atI, ixN, setv, setvs, setAll, bindT, wipe, frz, ownS, ownL, truthV, cmpV, binV, isinstV, lenV, bltV, isNV, mthTy, optI, sz, r_turned_by, d_turned_by, l1, l2, slcV, cut, sIx, eqo, pureLe, purLes, eqv, eqvs, nz, i1, m1]
end LawP
set_option maxHeartbeats 1000000
set_option autoImplicit false
namespace LawP
open MP
theorem mapR_draw {f : Val → MH → Res (Option Val)} {P : MH → Nat → Prop} {Q : Val → Prop} {N c : Nat} (hf : ∀ (x : Val) (h : MH) (n : Nat), n < N → P h n → ∃ v h', f x h = .ok (some v) h' ∧ Q v ∧ P h' (n + c)) :
    ∀ (xs : List Val) (h : MH) (n : Nat), P h n → n + c * xs.length ≤ N → c ≠ 0 → ∃ vs h', mapR f xs h = .ok vs h' ∧ vs.length = xs.length ∧ (∀ v ∈ vs, Q v) ∧ P h' (n + c * xs.length)
  | [], h, n, p, _, _ => ⟨[], h, rfl, rfl, fun v hv => by simp at hv, by simpa using p⟩
  | x :: xs, h, n, p, hn, hc => by
    rw [List.length_cons, Nat.mul_add] at hn
    obtain ⟨v, h1, e1, q1, p1⟩ := hf x h n (by omega) p
    obtain ⟨vs, h2, e2, l2, q2, p2⟩ := mapR_draw hf xs h1 (n + c) p1 (by omega) hc
    refine ⟨v :: vs, h2, ?_, by rw [List.length_cons, List.length_cons, l2], fun w hw => ?_, ?_⟩
    · rw [mapR, e1, bindR_ok, e2]; rfl
    · rcases List.mem_cons.mp hw with rfl | hw
      · exact q1
      · exact q2 w hw
    · rw [List.length_cons, Nat.mul_add, show n + (c * xs.length + c * 1) = n + c + c * xs.length by omega]
      exact p2
theorem list_sg : ∀ vs : List Val, (∀ v ∈ vs, ∃ b, v = .str [sg b]) → ∃ t : List Bool, vs = t.map (fun b => Val.str [sg b]) ∧ t.length = vs.length
  | [], _ => ⟨[], rfl, rfl⟩
  | v :: vs, h => by
    obtain ⟨b, rfl⟩ := h v List.mem_cons_self
    obtain ⟨t, rfl, _⟩ := list_sg vs fun w hw => h w (List.mem_cons_of_mem _ hw)
    exact ⟨b :: t, rfl, by simp⟩
theorem one_tl (t : List Bool) : textsOf (t.map fun b => Val.str [sg b]) = some (t.map fun b => [sg b]) := by
  rw [← textsOf_map, List.map_map]; rfl
theorem one_fl : ∀ t : List Bool, (t.map fun b => [sg b]).flatten = enc t
  | [] => rfl
  | b :: t => by rw [List.map_cons, List.flatten_cons, one_fl t]; rfl
theorem one_sm : ∀ t : List Bool, ((t.map fun b => [sg b]).map (·.length)).sum = t.length
  | [] => rfl
  | b :: t => by rw [List.map_cons, List.map_cons, List.sum_cons, one_sm t, List.length_cons]; simp [Nat.add_comm]
abbrev eDraw : E := .meth .join (.con (.str [])) (.cons (.lc [10] (.name 10) (.rng1 (.call 40 (.cons (.var 0) (.cons (.con (.int 60)) .nil)))) .no (.call 41 (.cons (.var 0) (.cons (.ife (.cmp .eq (.var 9) (.con (.int 0))) (.lst (.cons (.con (.str [76])) (.cons (.con (.str [82])) (.cons (.con (.str [82])) .nil)))) (.lst (.cons (.con (.str [76])) (.cons (.con (.str [76])) (.cons (.con (.str [82])) .nil))))) .nil)))) .nil)
theorem draw_turn {h : MH} {k m : Nat} (w : Int) (p : Pot h k m) (hm : m < 2 ^ 20) (x : Val) : ∃ v h', turnLc (T 48) [10] (.name 10) .no (.call 41 (.cons (.var 0) (.cons (.ife (.cmp .eq (.var 9) (.con (.int 0))) (.lst (.cons (.con (.str [76])) (.cons (.con (.str [82])) (.cons (.con (.str [82])) .nil)))) (.lst (.cons (.con (.str [76])) (.cons (.con (.str [76])) (.cons (.con (.str [82])) .nil))))) .nil))) [.v (.obj k), .e, .e, .e, .e, .e, .e, .e, .e, .v (.int w), .e] x h = .ok (some v) h' ∧ (∃ b, v = .str [sg b]) ∧ Pot h' k (m + 1) := by
  by_cases hw : w = 0
  · obtain ⟨v, h', e, hv, p'⟩ := t_of (n := 48) (by omega) p hm [.str [76], .str [82], .str [82]] (by simp) (by simp)
    refine ⟨v, h', ?_, ?_, p'⟩
    · simp [-Res.bind, -List.map_map, -MP.opt, -Res.noexc, DR.def_, ev_var, ev_con, ev_glob, ev_bin, ev_neg, negR_int, ev_cmp, ev_chain, ev_isN, ev_notN, ev_band, ev_bor, ev_bnot, ev_ife, ev_tup, ev_lst, ev_newObj, ev_sub, ev_slice, ev_rev, ev_call, ev_blt, ev_meth, ev_isinst, ev_lrg, lrgR, ev_lrg2, lrgR2, ev_lc, ev_skip, ev_seq, seqR_nx, seqR_rt, seqR_bk, seqR_ct, ev_expr, ev_asg, ev_par, unpR, ev_unp, setIR, ev_setI, ev_setO, ev_app, extR, ev_ext, ev_ret, ev_if, ev_whl, ev_for, ev_brk, ev_cont, ev_frz, ev_kill, killR_nx, killR_rt, killR_bk, ev_never, endR_rt, endR_nx, evEs, evBs, evIt, evOp, evC, evR, evRs, bindR_ok, bindR_bad, bindR_exc, bind_ite, optR_some, optR_none, opt_ite, noexc_ok, startS, getB, getS, subV, subD, atI, ixN, setv, setvs, setAll, bindT, wipe, frz, ownS, ownL, truthV, cmpV, binV, isinstV, lenV, bltV, isNV, mthTy, optI, sz, turnLc, hw, eqo, pureLe, eqv, e]
    · simp at hv
      rcases hv with rfl | rfl
      · exact ⟨false, rfl⟩
      · exact ⟨true, rfl⟩
  · obtain ⟨v, h', e, hv, p'⟩ := t_of (n := 48) (by omega) p hm [.str [76], .str [76], .str [82]] (by simp) (by simp)
    refine ⟨v, h', ?_, ?_, p'⟩
    · simp [-Res.bind, -List.map_map, -MP.opt, -Res.noexc, DR.def_, ev_var, ev_con, ev_glob, ev_bin, ev_neg, negR_int, ev_cmp, ev_chain, ev_isN, ev_notN, ev_band, ev_bor, ev_bnot, ev_ife, ev_tup, ev_lst, ev_newObj, ev_sub, ev_slice, ev_rev, ev_call, ev_blt, ev_meth, ev_isinst, ev_lrg, lrgR, ev_lrg2, lrgR2, ev_lc, ev_skip, ev_seq, seqR_nx, seqR_rt, seqR_bk, seqR_ct, ev_expr, ev_asg, ev_par, unpR, ev_unp, setIR, ev_setI, ev_setO, ev_app, extR, ev_ext, ev_ret, ev_if, ev_whl, ev_for, ev_brk, ev_cont, ev_frz, ev_kill, killR_nx, killR_rt, killR_bk, ev_never, endR_rt, endR_nx, evEs, evBs, evIt, evOp, evC, evR, evRs, bindR_ok, bindR_bad, bindR_exc, bind_ite, optR_some, optR_none, opt_ite, noexc_ok, startS, getB, getS, subV, subD, atI, ixN, setv, setvs, setAll, bindT, wipe, frz, ownS, ownL, truthV, cmpV, binV, isinstV, lenV, bltV, isNV, mthTy, optI, sz, turnLc, hw, eqo, pureLe, eqv, e]
    · simp at hv
      rcases hv with rfl | rfl
      · exact ⟨false, rfl⟩
      · exact ⟨true, rfl⟩
theorem Pot.more {h : MH} {k m m' : Nat} (p : Pot h k m) (hm : m ≤ m') : Pot h k m' := by
  obtain ⟨a, b, c, e, a0, a1, b0, b1, c0, c1⟩ := p
  exact ⟨a, b, c, e, a0, a1, b0, b1, c0, by omega⟩
theorem draw_road {h : MH} {k m : Nat} (w : Int) (p : Pot h k m) (hm : m + 100 < 2 ^ 20) : ∃ (t : List Bool) (h' : MH), evE (T 48) false eDraw [.v (.obj k), .e, .e, .e, .e, .e, .e, .e, .e, .v (.int w), .e] h = .ok (st t) h' ∧ t.length < 60 ∧ Pot h' k (m + 61) := by
  obtain ⟨d, h1, e1, d0, d1, p1⟩ := t_take (n := 48) (by omega) p (by omega) 60 (by omega) (by unfold Lt; decide)
  obtain ⟨vs, h2, e2, l2, q2, p2⟩ := mapR_draw (P := fun h n => Pot h k n) (Q := fun v => ∃ b, v = .str [sg b]) (N := 2 ^ 20) (c := 1) (fun x h n hn p => draw_turn w p hn x) (rngL 0 d.toNat) h1 (m + 1) p1 (by rw [rngL_len]; omega) (by omega)
  obtain ⟨t, rfl, lt⟩ := list_sg vs q2
  rw [l2, rngL_len] at lt
  rw [rngL_len] at p2
  have rg : rgOk 0 d = true := by
    simp only [rgOk, Bool.and_eq_true, decide_eq_true_eq]
    omega
  have hz : d ≤ 16777216 := by omega
  have hz2 : t.length ≤ 16777216 := by omega
  refine ⟨t, h2, ?_, by omega, p2.more (by omega)⟩
  simp [-Res.bind, -List.map_map, -MP.opt, -Res.noexc, DR.def_, ev_var, ev_con, ev_glob, ev_bin, ev_neg, negR_int, ev_cmp, ev_chain, ev_isN, ev_notN, ev_band, ev_bor, ev_bnot, ev_ife, ev_tup, ev_lst, ev_newObj, ev_sub, ev_slice, ev_rev, ev_call, ev_blt, ev_meth, ev_isinst, ev_lrg, lrgR, ev_lrg2, lrgR2, ev_lc, ev_skip, ev_seq, seqR_nx, seqR_rt, seqR_bk, seqR_ct, ev_expr, ev_asg, ev_par, unpR, ev_unp, setIR, ev_setI, ev_setO, ev_app, extR, ev_ext, ev_ret, ev_if, ev_whl, ev_for, ev_brk, ev_cont, ev_frz, ev_kill, killR_nx, killR_rt, killR_bk, ev_never, endR_rt, endR_nx, evEs, evBs, evIt, evOp, evC, evR, evRs, bindR_ok, bindR_bad, bindR_exc, bind_ite, optR_some, optR_none, opt_ite, noexc_ok, startS, getB, getS, subV, subD, atI, ixN, setv, setvs, setAll, bindT, wipe, frz, ownS, ownL, truthV, cmpV, binV, isinstV, lenV, bltV, isNV, mthTy, optI, sz, e1, rg, hz, e2, mthV, one_tl, joinT_nil, one_fl, one_sm, hz2]
theorem t_turned {n : Nat} (hn : 44 < n) (m : M2) (a b : Int) (h : MH) (t : TSm m) (ha : 1 ≤ a) (hb : 1 ≤ b) (sa : Lt 900 a) (sb : Lt 900 b) (c : gc a b = 1) (c2 : gc (a * m.p + m.q * b) (a * m.r + m.s * b) = 1) : T n 44 [rn a b, tv m] h = .ok (rn (a * m.p + m.q * b) (a * m.r + m.s * b)) h := by
  rw [T_run hn rfl rfl]
  simp [-Res.bind, -List.map_map, -MP.opt, -Res.noexc, DR.def_, ev_var, ev_con, ev_glob, ev_bin, ev_neg, negR_int, ev_cmp, ev_chain, ev_isN, ev_notN, ev_band, ev_bor, ev_bnot, ev_ife, ev_tup, ev_lst, ev_newObj, ev_sub, ev_slice, ev_rev, ev_call, ev_blt, ev_meth, ev_isinst, ev_lrg, lrgR, ev_lrg2, lrgR2, ev_lc, ev_skip, ev_seq, seqR_nx, seqR_rt, seqR_bk, seqR_ct, ev_expr, ev_asg, ev_par, unpR, ev_unp, setIR, ev_setI, ev_setO, ev_app, extR, ev_ext, ev_ret, ev_if, ev_whl, ev_for, ev_brk, ev_cont, ev_frz, ev_kill, killR_nx, killR_rt, killR_bk, ev_never, endR_rt, endR_nx, evEs, evBs, evIt, evOp, evC, evR, evRs, bindR_ok, bindR_bad, bindR_exc, bind_ite, optR_some, optR_none, opt_ite, noexc_ok, startS, getB, getS, subV, subD, atI, ixN, setv, setvs, setAll, bindT, wipe, frz, ownS, ownL, truthV, cmpV, binV, isinstV, lenV, bltV, isNV, mthTy, optI, sz, r_turned, d_turned, t_check_number _ a b h hb c, t_check_turn _ m h t, t_turned_by (n := 44) (by omega) m a b h t ha hb sa sb c c2]
end LawP
set_option maxHeartbeats 1000000
set_option autoImplicit false
namespace LawP
open MP
theorem gc_neg (a c : Int) : gc (-a) c = gc a c := by simp only [gc, Int.natAbs_neg]
theorem rt_neg {a c : Int} (hc : 0 < c) : rt (-a) c = -rt a c := by
  have h1 := rt_mul (a := -a) hc
  have h2 := rt_mul (a := a) hc
  have g := gc_pos (a := a) hc
  rw [gc_neg] at h1
  have : rt (-a) c * gc a c = -rt a c * gc a c := by rw [h1, Int.neg_mul, h2]
  exact Int.eq_of_mul_eq_mul_right (by omega) this
theorem rl_neg (a c : Int) : rl (-a) c = rl a c := by unfold rl; rw [gc_neg]
theorem gc_one (a : Int) : gc a 1 = 1 := by simp [gc]
theorem t_above {n : Nat} (hn : 30 < n) (a b f g : Int) (h : MH) (hb : 0 < b) (c : gc a b = 1) (sa : Lt 900 a) (sb : Lt 900 b) (sf : Lt 900 f) (sg' : Lt 900 g) : T n 30 [rn a b, fr f g] h = .ok (rd (a * g - f * b) b) h := by
  have m1 := u_many (n := 30) (by omega) a b g h hb (sa.mono (by omega)) (sb.mono (by omega)) (sg'.mono (by omega))
  have s1 := u_summed (n := 30) (by omega) (a * g) b (-f) 1 h hb (by omega) ((Lt.mul sa sg').mono (by omega)) (sb.mono (by omega)) (sf.neg.mono (by omega)) (Lt.mono (k := 1) (show (1 : Int).natAbs < 2 ^ 1 by decide) (by omega))
  rw [rd_cop c] at m1
  rw [rd_cop (gc_one _)] at s1
  have e : a * g * 1 + -f * b = a * g - f * b := by rw [Int.neg_mul]; omega
  rw [e, Int.mul_one] at s1
  rw [T_run hn rfl rfl]
  simp [-Res.bind, -List.map_map, -MP.opt, -Res.noexc, DR.def_, ev_var, ev_con, ev_glob, ev_bin, ev_neg, negR_int, ev_cmp, ev_chain, ev_isN, ev_notN, ev_band, ev_bor, ev_bnot, ev_ife, ev_tup, ev_lst, ev_newObj, ev_sub, ev_slice, ev_rev, ev_call, ev_blt, ev_meth, ev_isinst, ev_lrg, lrgR, ev_lrg2, lrgR2, ev_lc, ev_skip, ev_seq, seqR_nx, seqR_rt, seqR_bk, seqR_ct, ev_expr, ev_asg, ev_par, unpR, ev_unp, setIR, ev_setI, ev_setO, ev_app, extR, ev_ext, ev_ret, ev_if, ev_whl, ev_for, ev_brk, ev_cont, ev_frz, ev_kill, killR_nx, killR_rt, killR_bk, ev_never, endR_rt, endR_nx, evEs, evBs, evIt, evOp, evC, evR, evRs, bindR_ok, bindR_bad, bindR_exc, bind_ite, optR_some, optR_none, opt_ite, noexc_ok, startS, getB, getS, subV, subD, atI, ixN, setv, setvs, setAll, bindT, wipe, frz, ownS, ownL, truthV, cmpV, binV, isinstV, lenV, bltV, isNV, mthTy, optI, sz, r_above, d_above, m1, s1]
theorem t_how_often {n : Nat} (hn : 33 < n) (x y b : Int) (h : MH) (hb : 0 < b) (hy : 0 < y) (sx : S1 x) (sy : S1 y) (sb : S1 b) : T n 33 [rd y b, rd x b] h = .ok (.int (x.fdiv y)) h := by
  have i1 := u_inverted (n := 33) (by omega) y b h hb hy sy sb
  have m1 := u_multiplied (n := 33) (by omega) x b b y h hb hy sx sb sb sy
  rw [Int.mul_comm b y, rd_scale hy hb] at m1
  have f1 := u_floor (n := 33) (by omega) x y h hy sy
  rw [T_run hn rfl rfl]
  simp [-Res.bind, -List.map_map, -MP.opt, -Res.noexc, DR.def_, ev_var, ev_con, ev_glob, ev_bin, ev_neg, negR_int, ev_cmp, ev_chain, ev_isN, ev_notN, ev_band, ev_bor, ev_bnot, ev_ife, ev_tup, ev_lst, ev_newObj, ev_sub, ev_slice, ev_rev, ev_call, ev_blt, ev_meth, ev_isinst, ev_lrg, lrgR, ev_lrg2, lrgR2, ev_lc, ev_skip, ev_seq, seqR_nx, seqR_rt, seqR_bk, seqR_ct, ev_expr, ev_asg, ev_par, unpR, ev_unp, setIR, ev_setI, ev_setO, ev_app, extR, ev_ext, ev_ret, ev_if, ev_whl, ev_for, ev_brk, ev_cont, ev_frz, ev_kill, killR_nx, killR_rt, killR_bk, ev_never, endR_rt, endR_nx, evEs, evBs, evIt, evOp, evC, evR, evRs, bindR_ok, bindR_bad, bindR_exc, bind_ite, optR_some, optR_none, opt_ite, noexc_ok, startS, getB, getS, subV, subD, atI, ixN, setv, setvs, setAll, bindT, wipe, frz, ownS, ownL, truthV, cmpV, binV, isinstV, lenV, bltV, isNV, mthTy, optI, sz, r_how_often, d_how_often, i1, m1, f1]
structure Nb (a b u0 u1 o0 o1 : Int) : Prop where
  det : o0 * u1 - u0 * o1 = 1
  hu : 1 ≤ u1
  ho : 1 ≤ o1
  ub : u1 ≤ b
  ob : o1 ≤ b
  x0 : 0 ≤ a * u1 - u0 * b
  y0 : 0 < o0 * b - a * o1
theorem Nb.sum {a b u0 u1 o0 o1 : Int} (N : Nb a b u0 u1 o0 o1) : (a * u1 - u0 * b) * o1 + (o0 * b - a * o1) * u1 = b := by
  have d := N.det
  have : (a * u1 - u0 * b) * o1 + (o0 * b - a * o1) * u1 = b * (o0 * u1 - u0 * o1) := by
    simp only [Int.sub_mul, Int.mul_sub]
    have e1 : a * u1 * o1 = a * o1 * u1 := by simp only [Int.mul_assoc, Int.mul_comm, Int.mul_left_comm]
    have e2 : u0 * b * o1 = b * (u0 * o1) := by simp only [Int.mul_assoc, Int.mul_comm, Int.mul_left_comm]
    have e3 : o0 * b * u1 = b * (o0 * u1) := by simp only [Int.mul_assoc, Int.mul_comm, Int.mul_left_comm]
    omega
  rw [this, d, Int.mul_one]
theorem Nb.under {a b u0 u1 o0 o1 m : Int} (N : Nb a b u0 u1 o0 o1) (m0 : 0 < m) (mx : m * (o0 * b - a * o1) ≤ a * u1 - u0 * b) (mb : m * o1 ≤ b - u1) : Nb a b (u0 + m * o0) (u1 + m * o1) o0 o1 := by
  obtain ⟨d, h1, h2, h3, h4, h5, h6⟩ := N
  have p := Int.mul_pos m0 (show 0 < o1 by omega)
  refine ⟨?_, by omega, h2, by omega, h4, ?_, h6⟩
  · simp only [Int.mul_add, Int.add_mul]
    have : o0 * (m * o1) = m * o0 * o1 := by simp only [Int.mul_assoc, Int.mul_comm, Int.mul_left_comm]
    omega
  · simp only [Int.mul_add, Int.add_mul, Int.mul_sub] at *
    have e1 : a * (m * o1) = m * (a * o1) := by simp only [Int.mul_assoc, Int.mul_comm, Int.mul_left_comm]
    have e2 : m * o0 * b = m * (o0 * b) := by simp only [Int.mul_assoc, Int.mul_comm, Int.mul_left_comm]
    omega
theorem Nb.over {a b u0 u1 o0 o1 m : Int} (N : Nb a b u0 u1 o0 o1) (m0 : 0 < m) (my : m * (a * u1 - u0 * b) < o0 * b - a * o1) (mb : m * u1 ≤ b - o1) : Nb a b u0 u1 (o0 + m * u0) (o1 + m * u1) := by
  obtain ⟨d, h1, h2, h3, h4, h5, h6⟩ := N
  have p := Int.mul_pos m0 (show 0 < u1 by omega)
  refine ⟨?_, h1, by omega, h3, by omega, h5, ?_⟩
  · simp only [Int.mul_add, Int.add_mul]
    have : u0 * (m * u1) = m * u0 * u1 := by simp only [Int.mul_assoc, Int.mul_comm, Int.mul_left_comm]
    omega
  · simp only [Int.mul_add, Int.add_mul, Int.mul_sub] at *
    have e1 : a * (m * u1) = m * (a * u1) := by simp only [Int.mul_assoc, Int.mul_comm, Int.mul_left_comm]
    have e2 : m * u0 * b = m * (u0 * b) := by simp only [Int.mul_assoc, Int.mul_comm, Int.mul_left_comm]
    omega
theorem dvd_cop {a b u : Int} (c : gc a b = 1) (h : b ∣ a * u) : b ∣ u := by
  have c' : Nat.gcd a.natAbs b.natAbs = 1 := by simp only [gc] at c; omega
  have h1 : b.natAbs ∣ a.natAbs * u.natAbs := by
    rw [← Int.natAbs_mul]
    exact Int.natAbs_dvd_natAbs.mpr h
  have c2 : Nat.Coprime b.natAbs a.natAbs := by rw [Nat.Coprime, Nat.gcd_comm]; exact c'
  exact Int.natAbs_dvd_natAbs.mp (c2.dvd_of_dvd_mul_left h1)
theorem Nb.fin {a b u0 u1 o0 o1 : Int} (N : Nb a b u0 u1 o0 o1) (c : gc a b = 1) (e : b < u1 + o1) : u0 = a ∧ u1 = b ∧ o0 * b - a * o1 = 1 := by
  have s := N.sum
  obtain ⟨d, h1, h2, h3, h4, h5, h6⟩ := N
  generalize hX : a * u1 - u0 * b = X at *
  generalize hY : o0 * b - a * o1 = Y at *
  have x0 : X = 0 := by
    rcases Int.lt_or_le 0 X with h | h
    · have p1 := Int.mul_le_mul_of_nonneg_right (show (1 : Int) ≤ X by omega) (show 0 ≤ o1 by omega)
      have p2 := Int.mul_le_mul_of_nonneg_right (show (1 : Int) ≤ Y by omega) (show 0 ≤ u1 by omega)
      omega
    · omega
  have dv : b ∣ a * u1 := ⟨u0, by rw [Int.mul_comm b u0]; omega⟩
  have du := dvd_cop c dv
  have eu : u1 = b := Int.le_antisymm h3 (Int.le_of_dvd (by omega) du)
  subst eu
  rw [x0, Int.zero_mul, Int.zero_add] at s
  have ey : Y = 1 := by
    have : Y * u1 = 1 * u1 := by omega
    exact Int.eq_of_mul_eq_mul_right (by omega) this
  have eu0 : u0 = a := by
    have : u0 * u1 = a * u1 := by omega
    exact Int.eq_of_mul_eq_mul_right (by omega) this
  exact ⟨eu0, rfl, ey⟩
theorem nb_uniq {a b o0 o1 p r : Int} (c : gc a b = 1) (h1 : o0 * b - a * o1 = 1) (h2 : p * b - a * r = 1) (b1 : 1 ≤ o1) (b2 : o1 ≤ b) (c1 : 1 ≤ r) (c2 : r ≤ b) : o0 = p ∧ o1 = r := by
  have e : a * (o1 - r) = b * (o0 - p) := by
    simp only [Int.mul_sub]
    rw [Int.mul_comm b o0, Int.mul_comm b p]
    omega
  have dv := dvd_cop c ⟨o0 - p, e⟩
  have z : o1 - r = 0 := by
    obtain ⟨k, hk⟩ := dv
    have hb : 0 < b := by omega
    rcases Int.lt_trichotomy k 0 with hk0 | hk0 | hk0
    · have := Int.mul_le_mul_of_nonneg_left (show k ≤ -1 by omega) (show 0 ≤ b by omega)
      omega
    · rw [hk0] at hk; omega
    · have := Int.mul_le_mul_of_nonneg_left (show 1 ≤ k by omega) (show 0 ≤ b by omega)
      omega
  have e1 : o1 = r := by omega
  subst e1
  refine ⟨?_, rfl⟩
  have : o0 * b = p * b := by omega
  exact Int.eq_of_mul_eq_mul_right (by omega) this
end LawP
set_option maxHeartbeats 1000000
set_option autoImplicit false
namespace LawP
open MP
abbrev sUnder : Val := .str [117, 110, 100, 101, 114]
abbrev sOver : Val := .str [111, 118, 101, 114]
abbrev rec4 (u0 u1 o0 o1 : Int) (s : Bool) (m : Int) : Val := .tup [fr u0 u1, fr o0 o1, if s then sUnder else sOver, .int m]
abbrev eR (a b u0 u1 o0 o1 : Int) (F : List Val) : Env := [.v (rn a b), .v (.int b), .e, .v (.bl true), .v (fr u0 u1), .v (fr o0 o1), .o (.lst F), .e, .e, .e, .e, .e]
structure Sz (a b u0 u1 o0 o1 : Int) : Prop where
  a : Lt 300 a
  b : Lt 300 b
  u0 : Lt 300 u0
  u1 : Lt 300 u1
  o0 : Lt 300 o0
  o1 : Lt 300 o1
theorem fdiv_le' {x y : Int} (hy : 0 < y) : x.fdiv y * y ≤ x := by
  rw [Int.fdiv_eq_ediv_of_nonneg _ (by omega)]
  exact Int.ediv_mul_le _ (by omega)
theorem fdiv_lt' {x y : Int} (hy : 0 < y) : x < (x.fdiv y + 1) * y := by
  rw [Int.fdiv_eq_ediv_of_nonneg _ (by omega)]
  exact Int.lt_ediv_add_one_mul_self _ hy
theorem fdiv_pos' {x y : Int} (hy : 0 < y) (h : y ≤ x) : 1 ≤ x.fdiv y := by
  rw [Int.fdiv_eq_ediv_of_nonneg _ (by omega)]
  exact Int.le_ediv_of_mul_le (by omega) (by omega)
theorem Lt.le {k : Nat} {m b : Int} (hb : Lt k b) (h0 : 0 ≤ m) (h : m ≤ b) : Lt k m := by
  unfold Lt at *
  omega
theorem runs_under {a b u0 u1 o0 o1 : Int} (N : Nb a b u0 u1 o0 o1) (c : gc a b = 1) (z : Sz a b u0 u1 o0 o1) (F : List Val) (hF : F.length < 10000) (h : MH) (go : u1 + o1 ≤ b) (hxy : o0 * b - a * o1 ≤ a * u1 - u0 * b) :
    ∃ m, 0 < m ∧ m * (o0 * b - a * o1) ≤ a * u1 - u0 * b ∧ m * o1 ≤ b - u1 ∧ Lt 300 m ∧ ((a * u1 - u0 * b) - m * (o0 * b - a * o1) < o0 * b - a * o1 ∨ b < u1 + m * o1 + o1) ∧ evS (T 34) ckP l1_runs (eR a b u0 u1 o0 o1 F) h = .ok (.nx (eR a b (u0 + m * o0) (u1 + m * o1) o0 o1 (F ++ [rec4 u0 u1 o0 o1 true m]))) h := by
  have hu := N.hu
  have ho := N.ho
  have y0 := N.y0
  have hb : 0 < b := by omega
  have hFz : F.length < 16777216 := by omega
  have A := t_above (n := 34) (by omega) a b u0 u1 h hb c (z.a.mono (by omega)) (z.b.mono (by omega)) (z.u0.mono (by omega)) (z.u1.mono (by omega))
  have B := t_above (n := 34) (by omega) a b o0 o1 h hb c (z.a.mono (by omega)) (z.b.mono (by omega)) (z.o0.mono (by omega)) (z.o1.mono (by omega))
  have sx : Lt 601 (a * u1 - u0 * b) := Lt.sub (Lt.mul z.a z.u1) (Lt.mul z.u0 z.b)
  have sy : Lt 601 (o0 * b - a * o1) := Lt.sub (Lt.mul z.o0 z.b) (Lt.mul z.a z.o1)
  have en : a * o1 - o0 * b = -(o0 * b - a * o1) := by omega
  rw [en] at B
  have C := t_how_often (n := 34) (by omega) (a * u1 - u0 * b) (o0 * b - a * o1) b h hb y0 (sx.mono (by omega)) (sy.mono (by omega)) (z.b.mono (by omega))
  generalize hX : a * u1 - u0 * b = X at *
  generalize hY : o0 * b - a * o1 = Y at *
  have B' : T 34 30 [rn a b, fr o0 o1] h = .ok (rn (-rt Y b) (rl Y b)) h := by rw [B]; simp only [rd, rt_neg hb, rl_neg]
  have do1 : divOk o1 = true := Sm.d (z.o1.mono (by omega)) (by omega)
  have k1 := fdiv_pos' (x := b - u1) (y := o1) (by omega) (by omega)
  have k2 := fdiv_le' (x := b - u1) (y := o1) (by omega)
  have q1 := fdiv_pos' (x := X) (y := Y) y0 hxy
  have q2 := fdiv_le' (x := X) (y := Y) y0
  have k3 := fdiv_lt' (x := b - u1) (y := o1) (by omega)
  have q3 := fdiv_lt' (x := X) (y := Y) y0
  generalize hK : (b - u1).fdiv o1 = K1 at *
  generalize hQ : X.fdiv Y = Q at *
  obtain ⟨m, hm, m0, m1, m2, m3⟩ : ∃ m, (if K1 < Q then K1 else Q) = m ∧ 0 < m ∧ m ≤ Q ∧ m ≤ K1 ∧ (m = K1 ∨ m = Q) := ⟨_, rfl, by split <;> omega, by split <;> omega, by split <;> omega, by split <;> omega⟩
  have lst : X - m * Y < Y ∨ b < u1 + m * o1 + o1 := by
    rcases m3 with rfl | rfl
    · rw [Int.add_mul] at k3; exact .inr (by omega)
    · rw [Int.add_mul] at q3; exact .inl (by omega)
  have r1 : m * Y ≤ X := Int.le_trans (Int.mul_le_mul_of_nonneg_right m1 (by omega)) q2
  have r2 : m * o1 ≤ b - u1 := Int.le_trans (Int.mul_le_mul_of_nonneg_right m2 (by omega)) k2
  have lm : Lt 300 m := by
    have : m ≤ b := by
      have := Int.mul_le_mul_of_nonneg_left (show (1 : Int) ≤ o1 by omega) (show 0 ≤ m by omega)
      omega
    exact LawP.Lt.le z.b (by omega) this
  have p0 : mulOk m o0 = true := lm.mulOk z.o0 (by omega)
  have p1 : mulOk m o1 = true := lm.mulOk z.o1 (by omega)
  refine ⟨m, m0, r1, r2, lm, lst, ?_⟩
  simp [-Res.bind, -List.map_map, -MP.opt, -Res.noexc, DR.def_, ev_var, ev_con, ev_glob, ev_bin, ev_neg, negR_int, ev_cmp, ev_chain, ev_isN, ev_notN, ev_band, ev_bor, ev_bnot, ev_ife, ev_tup, ev_lst, ev_newObj, ev_sub, ev_slice, ev_rev, ev_call, ev_blt, ev_meth, ev_isinst, ev_lrg, lrgR, ev_lrg2, lrgR2, ev_lc, ev_skip, ev_seq, seqR_nx, seqR_rt, seqR_bk, seqR_ct, ev_expr, ev_asg, ev_par, unpR, ev_unp, setIR, ev_setI, ev_setO, ev_app, extR, ev_ext, ev_ret, ev_if, ev_whl, ev_for, ev_brk, ev_cont, ev_frz, ev_kill, killR_nx, killR_rt, killR_bk, ev_never, endR_rt, endR_nx, evEs, evBs, evIt, evOp, evC, evR, evRs, bindR_ok, bindR_bad, bindR_exc, bind_ite, optR_some, optR_none, opt_ite, noexc_ok, startS, getB, getS, subV, subD, atI, ixN, setv, setvs, setAll, bindT, wipe, frz, ownS, ownL, truthV, cmpV, binV, isinstV, lenV, bltV, isNV, mthTy, optI, sz, l1_runs, A, B', C, do1, hK, hm, m0, hFz, p0, p1]
theorem runs_over {a b u0 u1 o0 o1 : Int} (N : Nb a b u0 u1 o0 o1) (c : gc a b = 1) (z : Sz a b u0 u1 o0 o1) (F : List Val) (hF : F.length < 10000) (h : MH) (go : u1 + o1 ≤ b) (hxy : a * u1 - u0 * b < o0 * b - a * o1) :
    ∃ m, 0 < m ∧ m * (a * u1 - u0 * b) < o0 * b - a * o1 ∧ m * u1 ≤ b - o1 ∧ Lt 300 m ∧ ((o0 * b - a * o1) - m * (a * u1 - u0 * b) ≤ a * u1 - u0 * b ∨ b < o1 + m * u1 + u1) ∧ evS (T 34) ckP l1_runs (eR a b u0 u1 o0 o1 F) h = .ok (.nx (eR a b u0 u1 (o0 + m * u0) (o1 + m * u1) (F ++ [rec4 u0 u1 o0 o1 false m]))) h := by
  have hu := N.hu
  have ho := N.ho
  have y0 := N.y0
  have x0 : 0 < a * u1 - u0 * b := by
    rcases Int.lt_or_le 0 (a * u1 - u0 * b) with q | q
    · exact q
    · exfalso
      have e0 : a * u1 - u0 * b = 0 := Int.le_antisymm q N.x0
      have dv : b ∣ a * u1 := ⟨u0, by rw [Int.mul_comm b u0]; omega⟩
      have := Int.le_of_dvd (by omega) (dvd_cop c dv)
      omega
  have hb : 0 < b := by omega
  have hFz : F.length < 16777216 := by omega
  have A := t_above (n := 34) (by omega) a b u0 u1 h hb c (z.a.mono (by omega)) (z.b.mono (by omega)) (z.u0.mono (by omega)) (z.u1.mono (by omega))
  have B := t_above (n := 34) (by omega) a b o0 o1 h hb c (z.a.mono (by omega)) (z.b.mono (by omega)) (z.o0.mono (by omega)) (z.o1.mono (by omega))
  have sx : Lt 601 (a * u1 - u0 * b) := Lt.sub (Lt.mul z.a z.u1) (Lt.mul z.u0 z.b)
  have sy : Lt 601 (o0 * b - a * o1) := Lt.sub (Lt.mul z.o0 z.b) (Lt.mul z.a z.o1)
  have en : a * o1 - o0 * b = -(o0 * b - a * o1) := by omega
  rw [en] at B
  have C := t_how_often (n := 34) (by omega) (a * u1 - u0 * b) (o0 * b - a * o1) b h hb y0 (sx.mono (by omega)) (sy.mono (by omega)) (z.b.mono (by omega))
  have I := u_inverted (n := 34) (by omega) (a * u1 - u0 * b) b h hb x0 (sx.mono (by omega)) (z.b.mono (by omega))
  have M := u_multiplied (n := 34) (by omega) (-(o0 * b - a * o1)) b b (a * u1 - u0 * b) h hb x0 (sy.neg.mono (by omega)) (z.b.mono (by omega)) (z.b.mono (by omega)) (sx.mono (by omega))
  have G := u_floor (n := 34) (by omega) (-(o0 * b - a * o1)) (a * u1 - u0 * b) h x0 (sx.mono (by omega))
  generalize hX : a * u1 - u0 * b = X at *
  generalize hY : o0 * b - a * o1 = Y at *
  rw [Int.mul_comm b X, rd_scale x0 hb] at M
  have B' : T 34 30 [rn a b, fr o0 o1] h = .ok (rn (-rt Y b) (rl Y b)) h := by rw [B]; simp only [rd, rt_neg hb, rl_neg]
  have M' : T 34 31 [rn (-rt Y b) (rl Y b), rd b X] h = .ok (rd (-Y) X) h := by
    have := M
    simp only [rd, rt_neg hb, rl_neg] at this ⊢
    exact this
  have do1 : divOk o1 = true := Sm.d (z.o1.mono (by omega)) (by omega)
  have du1 : divOk u1 = true := Sm.d (z.u1.mono (by omega)) (by omega)
  have q0 : X.fdiv Y = 0 := by
    rw [Int.fdiv_eq_ediv_of_nonneg _ (by omega)]
    exact Int.ediv_eq_zero_of_lt (by omega) hxy
  have k1 := fdiv_pos' (x := b - u1) (y := o1) (by omega) (by omega)
  have w1 := fdiv_pos' (x := b - o1) (y := u1) (by omega) (by omega)
  have w2 := fdiv_le' (x := b - o1) (y := u1) (by omega)
  have w3 := fdiv_lt' (x := b - o1) (y := u1) (by omega)
  generalize hK : (b - u1).fdiv o1 = K1 at *
  generalize hW : (b - o1).fdiv u1 = W1 at *
  have nk : ¬ K1 < 0 := by omega
  have g1 : (-Y).fdiv X * X ≤ -Y := fdiv_le' x0
  have g2 : -Y < ((-Y).fdiv X + 1) * X := by
    rw [Int.fdiv_eq_ediv_of_nonneg _ (by omega)]
    exact Int.lt_ediv_add_one_mul_self _ x0
  generalize hD : (-Y).fdiv X = D at *
  have d2 : D ≤ -2 := by
    rcases Int.lt_or_le D (-1) with q | q
    · omega
    · exfalso
      have := Int.mul_le_mul_of_nonneg_right q (show 0 ≤ X by omega)
      omega
  obtain ⟨m, hm, m0, m1, m2, m3⟩ : ∃ m, (if W1 < -D - 1 then W1 else -D - 1) = m ∧ 0 < m ∧ m ≤ -D - 1 ∧ m ≤ W1 ∧ (m = W1 ∨ m = -D - 1) := ⟨_, rfl, by split <;> omega, by split <;> omega, by split <;> omega, by split <;> omega⟩
  have lst : Y - m * X ≤ X ∨ b < o1 + m * u1 + u1 := by
    rcases m3 with e | e
    · rw [e]; rw [Int.add_mul] at w3; exact .inr (by omega)
    · have e3 : m = -(D + 1) := by omega
      rw [e3, Int.neg_mul, Int.add_mul]
      exact .inl (by omega)
  have r1 : m * X < Y := by
    have e1 := Int.mul_le_mul_of_nonneg_right m1 (show 0 ≤ X by omega)
    have e3 : -D - 1 = -(D + 1) := by omega
    rw [e3, Int.neg_mul] at e1
    omega
  have r2 : m * u1 ≤ b - o1 := Int.le_trans (Int.mul_le_mul_of_nonneg_right m2 (by omega)) w2
  have lm : Lt 300 m := by
    have : m ≤ b := by
      have := Int.mul_le_mul_of_nonneg_left (show (1 : Int) ≤ u1 by omega) (show 0 ≤ m by omega)
      omega
    exact LawP.Lt.le z.b (by omega) this
  have p0 : mulOk m u0 = true := lm.mulOk z.u0 (by omega)
  have p1 : mulOk m u1 = true := lm.mulOk z.u1 (by omega)
  have nz : rt X b ≠ 0 := fun e => by
    have := rt_mul (a := X) (c := b) hb
    rw [e] at this; omega
  refine ⟨m, m0, r1, r2, lm, lst, ?_⟩
  simp [-Res.bind, -List.map_map, -MP.opt, -Res.noexc, DR.def_, ev_var, ev_con, ev_glob, ev_bin, ev_neg, negR_int, ev_cmp, ev_chain, ev_isN, ev_notN, ev_band, ev_bor, ev_bnot, ev_ife, ev_tup, ev_lst, ev_newObj, ev_sub, ev_slice, ev_rev, ev_call, ev_blt, ev_meth, ev_isinst, ev_lrg, lrgR, ev_lrg2, lrgR2, ev_lc, ev_skip, ev_seq, seqR_nx, seqR_rt, seqR_bk, seqR_ct, ev_expr, ev_asg, ev_par, unpR, ev_unp, setIR, ev_setI, ev_setO, ev_app, extR, ev_ext, ev_ret, ev_if, ev_whl, ev_for, ev_brk, ev_cont, ev_frz, ev_kill, killR_nx, killR_rt, killR_bk, ev_never, endR_rt, endR_nx, evEs, evBs, evIt, evOp, evC, evR, evRs, bindR_ok, bindR_bad, bindR_exc, bind_ite, optR_some, optR_none, opt_ite, noexc_ok, startS, getB, getS, subV, subD, atI, ixN, setv, setvs, setAll, bindT, wipe, frz, ownS, ownL, truthV, cmpV, binV, isinstV, lenV, bltV, isNV, mthTy, optI, sz, l1_runs, A, B', C, q0, do1, hK, nk, slcV, cut, sIx, eqo, pureLe, purLes, eqv, eqvs, nz, I, M', G, hD, du1, hW, hm, hFz, p0, p1]
end LawP
set_option maxHeartbeats 1000000
set_option autoImplicit false
namespace LawP
open MP
theorem between {a b u x : Int} (hb : 0 < b) (k : Int) (hk1 : 1 ≤ k) (hk2 : k ≤ b) (hx : -b ≤ x) (hx2 : x ≤ b) (e : u * b = a * k + x) : u.natAbs ≤ a.natAbs + 1 := by
  have h1 : (u * b).natAbs ≤ (a.natAbs + 1) * b.natAbs := by
    rw [e]
    have i1 := Int.natAbs_add_le (a * k) x
    have i2 : (a * k).natAbs ≤ a.natAbs * b.natAbs := by
      rw [Int.natAbs_mul]
      exact Nat.mul_le_mul_left _ (by omega)
    have i3 : x.natAbs ≤ b.natAbs := by omega
    rw [Nat.add_mul, Nat.one_mul]
    omega
  rw [Int.natAbs_mul] at h1
  exact Nat.le_of_mul_le_mul_right h1 (by omega)
theorem lt_succ {a u : Int} {k : Nat} (ha : Lt k a) (h : u.natAbs ≤ a.natAbs + 1) : Lt (k + 1) u := by
  unfold Lt at *
  have : 0 < 2 ^ k := Nat.pow_pos (by omega)
  rw [Nat.pow_succ]
  omega
theorem Nb.xy {a b u0 u1 o0 o1 : Int} (N : Nb a b u0 u1 o0 o1) : a * u1 - u0 * b ≤ b ∧ o0 * b - a * o1 ≤ b := by
  have s := N.sum
  have hu := N.hu
  have ho := N.ho
  have x0 := N.x0
  have y0 := N.y0
  generalize a * u1 - u0 * b = X at *
  generalize o0 * b - a * o1 = Y at *
  have p1 := Int.mul_le_mul_of_nonneg_left ho (show 0 ≤ X by omega)
  have p2 := Int.mul_le_mul_of_nonneg_left hu (show 0 ≤ Y by omega)
  have p3 := Int.mul_nonneg (show 0 ≤ X by omega) (show 0 ≤ o1 by omega)
  have p4 := Int.mul_nonneg (show 0 ≤ Y by omega) (show 0 ≤ u1 by omega)
  constructor <;> omega
theorem Nb.sz {a b u0 u1 o0 o1 : Int} (N : Nb a b u0 u1 o0 o1) (ha : Lt 299 a) (hb : Lt 300 b) : Sz a b u0 u1 o0 o1 := by
  obtain ⟨x1, y1⟩ := N.xy
  have hu := N.hu
  have ho := N.ho
  have ub := N.ub
  have ob := N.ob
  have x0 := N.x0
  have y0 := N.y0
  have e1 : u0 * b = a * u1 + -(a * u1 - u0 * b) := by omega
  have e2 : o0 * b = a * o1 + (o0 * b - a * o1) := by omega
  refine ⟨ha.mono (by omega), hb, lt_succ ha (between (by omega) u1 hu ub (by omega) (by omega) e1), LawP.Lt.le hb (by omega) ub, lt_succ ha (between (by omega) o1 ho ob (by omega) (by omega) e2), LawP.Lt.le hb (by omega) ob⟩
def isRec (x : Val) : Prop := ∃ u0 u1 o0 o1 s m, x = rec4 u0 u1 o0 o1 s m
abbrev mv0 (u0 u1 o0 o1 : Int) (s : Bool) (m : Int) : Val := if s then .tup [fr (u0 + m * o0) (u1 + m * o1), fr o0 o1] else .tup [fr u0 u1, fr (o0 + m * u0) (o1 + m * u1)]
theorem grow_step {d : Nat} {b s s' : Int} (h : 2 ^ (d + 1) * (2 * b) < 3 ^ (d + 1) * s) (h2 : 3 * s ≤ 2 * s') : (2 : Int) ^ d * (2 * b) < 3 ^ d * s' := by
  rw [Int.pow_succ, Int.pow_succ] at h
  have p : (0 : Int) < 3 ^ d := Int.pow_pos (by omega)
  have e := Int.mul_le_mul_of_nonneg_left h2 (show (0 : Int) ≤ 3 ^ d by omega)
  have e1 : (3 : Int) ^ d * (3 * s) = 3 ^ d * 3 * s := by rw [Int.mul_assoc]
  have e2 : (3 : Int) ^ d * (2 * s') = 2 * (3 ^ d * s') := by rw [Int.mul_left_comm]
  have e3 : (2 : Int) ^ d * 2 * (2 * b) = 2 * (2 ^ d * (2 * b)) := by rw [Int.mul_comm (2 ^ d) 2, Int.mul_assoc]
  omega
theorem runs_loop {a b : Int} (c : gc a b = 1) (ha : Lt 299 a) (hb : Lt 300 b) (h : MH) : ∀ (d : Nat) (u0 u1 o0 o1 : Int) (F : List Val), (2 : Int) ^ d * (2 * b) < 3 ^ d * (u1 + o1) → Nb a b u0 u1 o0 o1 → (o0 * b - a * o1 ≤ a * u1 - u0 * b → u1 ≤ o1) → (a * u1 - u0 * b < o0 * b - a * o1 → o1 ≤ u1) → F.length + d < 10000 → (∀ x ∈ F, isRec x) →
    ∃ (n : Nat) (v0 v1 w0 w1 : Int) (F' : List Val), loopW (cndB (T 34) c1_runs) (evS (T 34) ckP l1_runs) n (eR a b u0 u1 o0 o1 F) h = .ok (.nx (eR a b v0 v1 w0 w1 F')) h ∧ Nb a b v0 v1 w0 w1 ∧ b < v1 + w1 ∧ (∀ x ∈ F', isRec x) ∧
      ((F' = F ∧ v0 = u0 ∧ v1 = u1 ∧ w0 = o0 ∧ w1 = o1) ∨ ∃ P p0 p1 q0 q1 s m, F' = P ++ [rec4 p0 p1 q0 q1 s m] ∧ mv0 p0 p1 q0 q1 s m = .tup [fr v0 v1, fr w0 w1] ∧ Sz a b p0 p1 q0 q1 ∧ Lt 300 m) := by
  have leave : ∀ (u0 u1 o0 o1 : Int) (F : List Val), Nb a b u0 u1 o0 o1 → ¬ u1 + o1 ≤ b → (∀ x ∈ F, isRec x) → ∃ (n : Nat) (v0 v1 w0 w1 : Int) (F' : List Val), loopW (cndB (T 34) c1_runs) (evS (T 34) ckP l1_runs) n (eR a b u0 u1 o0 o1 F) h = .ok (.nx (eR a b v0 v1 w0 w1 F')) h ∧ Nb a b v0 v1 w0 w1 ∧ b < v1 + w1 ∧ (∀ x ∈ F', isRec x) ∧
      ((F' = F ∧ v0 = u0 ∧ v1 = u1 ∧ w0 = o0 ∧ w1 = o1) ∨ ∃ P p0 p1 q0 q1 s m, F' = P ++ [rec4 p0 p1 q0 q1 s m] ∧ mv0 p0 p1 q0 q1 s m = .tup [fr v0 v1, fr w0 w1] ∧ Sz a b p0 p1 q0 q1 ∧ Lt 300 m) := fun u0 u1 o0 o1 F N go hr => by
    refine ⟨1, u0, u1, o0, o1, F, ?_, N, by omega, hr, .inl ⟨rfl, rfl, rfl, rfl, rfl⟩⟩
    have cd : cndB (T 34) c1_runs (eR a b u0 u1 o0 o1 F) h = .ok false h := by simp [-Res.bind, -List.map_map, -MP.opt, -Res.noexc, DR.def_, ev_var, ev_con, ev_glob, ev_bin, ev_neg, negR_int, ev_cmp, ev_chain, ev_isN, ev_notN, ev_band, ev_bor, ev_bnot, ev_ife, ev_tup, ev_lst, ev_newObj, ev_sub, ev_slice, ev_rev, ev_call, ev_blt, ev_meth, ev_isinst, ev_lrg, lrgR, ev_lrg2, lrgR2, ev_lc, ev_skip, ev_seq, seqR_nx, seqR_rt, seqR_bk, seqR_ct, ev_expr, ev_asg, ev_par, unpR, ev_unp, setIR, ev_setI, ev_setO, ev_app, extR, ev_ext, ev_ret, ev_if, ev_whl, ev_for, ev_brk, ev_cont, ev_frz, ev_kill, killR_nx, killR_rt, killR_bk, ev_never, endR_rt, endR_nx, evEs, evBs, evIt, evOp, evC, evR, evRs, bindR_ok, bindR_bad, bindR_exc, bind_ite, optR_some, optR_none, opt_ite, noexc_ok, startS, getB, getS, subV, subD, atI, ixN, setv, setvs, setAll, bindT, wipe, frz, ownS, ownL, truthV, cmpV, binV, isinstV, lenV, bltV, isNV, mthTy, optI, sz, cndB, c1_runs, go]
    rw [loopW, cd]; rfl
  intro d
  induction d with
  | zero =>
    intro u0 u1 o0 o1 F hd N j1 j2 hF hr
    have := N.hu
    have := N.ub
    simp only [Int.pow_zero, Int.one_mul] at hd
    exact leave u0 u1 o0 o1 F N (by omega) hr
  | succ d ih =>
    intro u0 u1 o0 o1 F hd N j1 j2 hF hr
    by_cases go : u1 + o1 ≤ b
    · have cd : cndB (T 34) c1_runs (eR a b u0 u1 o0 o1 F) h = .ok true h := by simp [-Res.bind, -List.map_map, -MP.opt, -Res.noexc, DR.def_, ev_var, ev_con, ev_glob, ev_bin, ev_neg, negR_int, ev_cmp, ev_chain, ev_isN, ev_notN, ev_band, ev_bor, ev_bnot, ev_ife, ev_tup, ev_lst, ev_newObj, ev_sub, ev_slice, ev_rev, ev_call, ev_blt, ev_meth, ev_isinst, ev_lrg, lrgR, ev_lrg2, lrgR2, ev_lc, ev_skip, ev_seq, seqR_nx, seqR_rt, seqR_bk, seqR_ct, ev_expr, ev_asg, ev_par, unpR, ev_unp, setIR, ev_setI, ev_setO, ev_app, extR, ev_ext, ev_ret, ev_if, ev_whl, ev_for, ev_brk, ev_cont, ev_frz, ev_kill, killR_nx, killR_rt, killR_bk, ev_never, endR_rt, endR_nx, evEs, evBs, evIt, evOp, evC, evR, evRs, bindR_ok, bindR_bad, bindR_exc, bind_ite, optR_some, optR_none, opt_ite, noexc_ok, startS, getB, getS, subV, subD, atI, ixN, setv, setvs, setAll, bindT, wipe, frz, ownS, ownL, truthV, cmpV, binV, isinstV, lenV, bltV, isNV, mthTy, optI, sz, cndB, c1_runs, go]
      have z := N.sz ha hb
      have hu := N.hu
      have ho := N.ho
      by_cases hxy : o0 * b - a * o1 ≤ a * u1 - u0 * b
      · obtain ⟨m, m0, r1, r2, lm, lst, e⟩ := runs_under N c z F (by omega) h go hxy
        have N' := N.under m0 r1 r2
        have p := Int.mul_le_mul_of_nonneg_right (show (1 : Int) ≤ m by omega) (show 0 ≤ o1 by omega)
        have hr' : ∀ x ∈ F ++ [rec4 u0 u1 o0 o1 true m], isRec x := fun x hx => by
          rcases List.mem_append.mp hx with hx | hx
          · exact hr x hx
          · rw [List.mem_singleton] at hx; exact ⟨_, _, _, _, _, _, hx⟩
        have key : ∃ (n : Nat) (v0 v1 w0 w1 : Int) (F' : List Val), loopW (cndB (T 34) c1_runs) (evS (T 34) ckP l1_runs) n (eR a b (u0 + m * o0) (u1 + m * o1) o0 o1 (F ++ [rec4 u0 u1 o0 o1 true m])) h = .ok (.nx (eR a b v0 v1 w0 w1 F')) h ∧ Nb a b v0 v1 w0 w1 ∧ b < v1 + w1 ∧ (∀ x ∈ F', isRec x) ∧
            ((F' = F ++ [rec4 u0 u1 o0 o1 true m] ∧ v0 = u0 + m * o0 ∧ v1 = u1 + m * o1 ∧ w0 = o0 ∧ w1 = o1) ∨ ∃ P p0 p1 q0 q1 s m, F' = P ++ [rec4 p0 p1 q0 q1 s m] ∧ mv0 p0 p1 q0 q1 s m = .tup [fr v0 v1, fr w0 w1] ∧ Sz a b p0 p1 q0 q1 ∧ Lt 300 m) := by
          by_cases go2 : u1 + m * o1 + o1 ≤ b
          · have x' : a * (u1 + m * o1) - (u0 + m * o0) * b = (a * u1 - u0 * b) - m * (o0 * b - a * o1) := by
              simp only [Int.mul_add, Int.add_mul, Int.mul_sub]
              have e1 : a * (m * o1) = m * (a * o1) := by simp only [Int.mul_assoc, Int.mul_comm, Int.mul_left_comm]
              have e2 : m * o0 * b = m * (o0 * b) := by simp only [Int.mul_assoc, Int.mul_comm, Int.mul_left_comm]
              omega
            have lt := lst.resolve_right (by omega)
            refine ih _ _ _ _ _ (grow_step hd (by have := j1 hxy; omega)) N' (fun q => ?_) (fun _ => by omega) (by rw [List.length_append]; simp; omega) hr'
            rw [x'] at q; omega
          · exact leave _ _ _ _ _ N' go2 hr'
        obtain ⟨n, v0, v1, w0, w1, F', e2, N2, g2, r3, q⟩ := key
        refine ⟨n + 1, v0, v1, w0, w1, F', ?_, N2, g2, r3, .inr ?_⟩
        · rw [loopW, cd, bindR_ok]
          simp only [if_true]
          rw [e, bindR_ok]
          exact e2
        · rcases q with ⟨q1, rfl, rfl, rfl, rfl⟩ | q
          · exact ⟨F, _, _, _, _, _, _, q1, rfl, z, lm⟩
          · exact q
      · obtain ⟨m, m0, r1, r2, lm, lst, e⟩ := runs_over N c z F (by omega) h go (by omega)
        have N' := N.over m0 r1 r2
        have p := Int.mul_le_mul_of_nonneg_right (show (1 : Int) ≤ m by omega) (show 0 ≤ u1 by omega)
        have hr' : ∀ x ∈ F ++ [rec4 u0 u1 o0 o1 false m], isRec x := fun x hx => by
          rcases List.mem_append.mp hx with hx | hx
          · exact hr x hx
          · rw [List.mem_singleton] at hx; exact ⟨_, _, _, _, _, _, hx⟩
        have key : ∃ (n : Nat) (v0 v1 w0 w1 : Int) (F' : List Val), loopW (cndB (T 34) c1_runs) (evS (T 34) ckP l1_runs) n (eR a b u0 u1 (o0 + m * u0) (o1 + m * u1) (F ++ [rec4 u0 u1 o0 o1 false m])) h = .ok (.nx (eR a b v0 v1 w0 w1 F')) h ∧ Nb a b v0 v1 w0 w1 ∧ b < v1 + w1 ∧ (∀ x ∈ F', isRec x) ∧
            ((F' = F ++ [rec4 u0 u1 o0 o1 false m] ∧ v0 = u0 ∧ v1 = u1 ∧ w0 = o0 + m * u0 ∧ w1 = o1 + m * u1) ∨ ∃ P p0 p1 q0 q1 s m, F' = P ++ [rec4 p0 p1 q0 q1 s m] ∧ mv0 p0 p1 q0 q1 s m = .tup [fr v0 v1, fr w0 w1] ∧ Sz a b p0 p1 q0 q1 ∧ Lt 300 m) := by
          by_cases go2 : u1 + (o1 + m * u1) ≤ b
          · have y' : (o0 + m * u0) * b - a * (o1 + m * u1) = (o0 * b - a * o1) - m * (a * u1 - u0 * b) := by
              simp only [Int.mul_add, Int.add_mul, Int.mul_sub]
              have e1 : a * (m * u1) = m * (a * u1) := by simp only [Int.mul_assoc, Int.mul_comm, Int.mul_left_comm]
              have e2 : m * u0 * b = m * (u0 * b) := by simp only [Int.mul_assoc, Int.mul_comm, Int.mul_left_comm]
              omega
            have lt := lst.resolve_right (by omega)
            refine ih _ _ _ _ _ (grow_step hd (by have := j2 (by omega); omega)) N' (fun _ => by omega) (fun q => ?_) (by rw [List.length_append]; simp; omega) hr'
            rw [y'] at q; omega
          · exact leave _ _ _ _ _ N' go2 hr'
        obtain ⟨n, v0, v1, w0, w1, F', e2, N2, g2, r3, q⟩ := key
        refine ⟨n + 1, v0, v1, w0, w1, F', ?_, N2, g2, r3, .inr ?_⟩
        · rw [loopW, cd, bindR_ok]
          simp only [if_true]
          rw [e, bindR_ok]
          exact e2
        · rcases q with ⟨q1, rfl, rfl, rfl, rfl⟩ | q
          · exact ⟨F, _, _, _, _, _, _, q1, rfl, z, lm⟩
          · exact q
    · exact leave u0 u1 o0 o1 F N go hr
end LawP
set_option maxHeartbeats 1000000
set_option autoImplicit false
namespace LawP
open MP
theorem grow_start {b : Int} (h0 : 0 < b) (hb : Lt 300 b) : (2 : Int) ^ 520 * (2 * b) < 3 ^ 520 * (1 + 1) := by
  have h1 : b < 2 ^ 300 := by
    unfold Lt at hb
    have e : ((2 ^ 300 : Nat) : Int) = (2 : Int) ^ 300 := by push_cast; rfl
    rw [← e]; omega
  have h2 : (2 : Int) ^ 520 * (2 * 2 ^ 300) < 3 ^ 520 * (1 + 1) := by decide +kernel
  have h3 : (2 : Int) ^ 520 * (2 * b) ≤ 2 ^ 520 * (2 * 2 ^ 300) := Int.mul_le_mul_of_nonneg_left (by omega) (by decide +kernel)
  exact Int.lt_of_le_of_lt h3 h2
theorem pure_recs : ∀ F : List Val, (∀ x ∈ F, isRec x) → purLes 59 F = true
  | [], _ => rfl
  | x :: F, h => by
    obtain ⟨u0, u1, o0, o1, s, m, rfl⟩ := h x List.mem_cons_self
    rw [purLes, pure_recs F fun y hy => h y (List.mem_cons_of_mem _ hy)]
    cases s <;> simp [pureLe, purLes]
structure Ends' (a b w0 w1 : Int) : Prop where
  e : w0 * b - a * w1 = 1
  hw : 1 ≤ w1
  wb : w1 ≤ b
theorem t_moved {n : Nat} (hn : 35 < n) (u0 u1 o0 o1 m : Int) (s : Bool) (h : MH) (z : Lt 300 u0 ∧ Lt 300 u1 ∧ Lt 300 o0 ∧ Lt 300 o1) (lm : Lt 300 m) : T n 35 [rec4 u0 u1 o0 o1 s m] h = .ok (mv0 u0 u1 o0 o1 s m) h := by
  obtain ⟨z1, z2, z3, z4⟩ := z
  rw [T_run hn rfl rfl]
  cases s
  · simp [-Res.bind, -List.map_map, -MP.opt, -Res.noexc, DR.def_, ev_var, ev_con, ev_glob, ev_bin, ev_neg, negR_int, ev_cmp, ev_chain, ev_isN, ev_notN, ev_band, ev_bor, ev_bnot, ev_ife, ev_tup, ev_lst, ev_newObj, ev_sub, ev_slice, ev_rev, ev_call, ev_blt, ev_meth, ev_isinst, ev_lrg, lrgR, ev_lrg2, lrgR2, ev_lc, ev_skip, ev_seq, seqR_nx, seqR_rt, seqR_bk, seqR_ct, ev_expr, ev_asg, ev_par, unpR, ev_unp, setIR, ev_setI, ev_setO, ev_app, extR, ev_ext, ev_ret, ev_if, ev_whl, ev_for, ev_brk, ev_cont, ev_frz, ev_kill, killR_nx, killR_rt, killR_bk, ev_never, endR_rt, endR_nx, evEs, evBs, evIt, evOp, evC, evR, evRs, bindR_ok, bindR_bad, bindR_exc, bind_ite, optR_some, optR_none, opt_ite, noexc_ok, startS, getB, getS, subV, subD, atI, ixN, setv, setvs, setAll, bindT, wipe, frz, ownS, ownL, truthV, cmpV, binV, isinstV, lenV, bltV, isNV, mthTy, optI, sz, r_moved, d_moved, eqo, pureLe, eqv, lm.mulOk z1 (by omega), lm.mulOk z2 (by omega)]
  · simp [-Res.bind, -List.map_map, -MP.opt, -Res.noexc, DR.def_, ev_var, ev_con, ev_glob, ev_bin, ev_neg, negR_int, ev_cmp, ev_chain, ev_isN, ev_notN, ev_band, ev_bor, ev_bnot, ev_ife, ev_tup, ev_lst, ev_newObj, ev_sub, ev_slice, ev_rev, ev_call, ev_blt, ev_meth, ev_isinst, ev_lrg, lrgR, ev_lrg2, lrgR2, ev_lc, ev_skip, ev_seq, seqR_nx, seqR_rt, seqR_bk, seqR_ct, ev_expr, ev_asg, ev_par, unpR, ev_unp, setIR, ev_setI, ev_setO, ev_app, extR, ev_ext, ev_ret, ev_if, ev_whl, ev_for, ev_brk, ev_cont, ev_frz, ev_kill, killR_nx, killR_rt, killR_bk, ev_never, endR_rt, endR_nx, evEs, evBs, evIt, evOp, evC, evR, evRs, bindR_ok, bindR_bad, bindR_exc, bind_ite, optR_some, optR_none, opt_ite, noexc_ok, startS, getB, getS, subV, subD, atI, ixN, setv, setvs, setAll, bindT, wipe, frz, ownS, ownL, truthV, cmpV, binV, isinstV, lenV, bltV, isNV, mthTy, optI, sz, r_moved, d_moved, eqo, pureLe, eqv, lm.mulOk z3 (by omega), lm.mulOk z4 (by omega)]
theorem t_neighbours {n : Nat} (hn : 36 < n) (a b : Int) (h : MH) (b2 : 2 ≤ b) (c : gc a b = 1) (ha : Lt 299 a) (hb : Lt 300 b) : ∃ w0 w1, T n 36 [rn a b, .int b] h = .ok (.tup [fr a b, fr w0 w1]) h ∧ Ends' a b w0 w1 := by
  have fl := u_floor (n := 34) (by omega) a b h (by omega) (hb.mono (by omega))
  rw [rd_cop c] at fl
  have f1 := fdiv_le' (x := a) (y := b) (by omega)
  have f2 := fdiv_lt' (x := a) (y := b) (by omega)
  generalize hw : a.fdiv b = w at *
  have e1 : (w + 1) * 1 - w * 1 = 1 := by omega
  have N : Nb a b w 1 (w + 1) 1 := ⟨by omega, by omega, by omega, by omega, by omega, by omega, by omega⟩
  obtain ⟨k, v0, v1, w0, w1, F', e2, N2, g2, hr, q⟩ := runs_loop c ha hb h 520 w 1 (w + 1) 1 [] (grow_start (by omega) hb) N (fun _ => by omega) (fun _ => by omega) (by simp) (by simp)
  have wh := while_of e2 (by simp)
  obtain ⟨rfl, rfl, ey⟩ := N2.fin c g2
  have ru : T 36 34 [rn v0 v1, .int v1] h = .ok (.lst F') h := by
    rw [T_run (by omega) rfl rfl]
    simp [-Res.bind, -List.map_map, -MP.opt, -Res.noexc, DR.def_, ev_var, ev_con, ev_glob, ev_bin, ev_neg, negR_int, ev_cmp, ev_chain, ev_isN, ev_notN, ev_band, ev_bor, ev_bnot, ev_ife, ev_tup, ev_lst, ev_newObj, ev_sub, ev_slice, ev_rev, ev_call, ev_blt, ev_meth, ev_isinst, ev_lrg, lrgR, ev_lrg2, lrgR2, ev_lc, ev_skip, ev_seq, seqR_nx, seqR_rt, seqR_bk, seqR_ct, ev_expr, ev_asg, ev_par, unpR, ev_unp, setIR, ev_setI, ev_setO, ev_app, extR, ev_ext, ev_ret, ev_if, ev_whl, ev_for, ev_brk, ev_cont, ev_frz, ev_kill, killR_nx, killR_rt, killR_bk, ev_never, endR_rt, endR_nx, evEs, evBs, evIt, evOp, evC, evR, evRs, bindR_ok, bindR_bad, bindR_exc, bind_ite, optR_some, optR_none, opt_ite, noexc_ok, startS, getB, getS, subV, subD, atI, ixN, setv, setvs, setAll, bindT, wipe, frz, ownS, ownL, truthV, cmpV, binV, isinstV, lenV, bltV, isNV, mthTy, optI, sz, r_runs, d_runs, fl, wh]
  rcases q with ⟨_, rfl, rfl, rfl, rfl⟩ | ⟨P, p0, p1, q0, q1, s, m, rfl, hm, z, lm⟩
  · omega
  · refine ⟨w0, w1, ?_, ey, N2.ho, N2.ob⟩
    have mo := t_moved (n := 36) (by omega) p0 p1 q0 q1 m s h ⟨z.u0, z.u1, z.o0, z.o1⟩ lm
    rw [hm] at mo
    have pu : pureLe 60 (.lst (P ++ [rec4 p0 p1 q0 q1 s m])) = true := pure_recs _ hr
    have ne : eqo (.lst (P ++ [rec4 p0 p1 q0 q1 s m])) (.lst []) = some false := by
      unfold eqo
      rw [pu]
      cases P <;> simp [pureLe, purLes, eqv, eqvs]
    rw [T_run hn rfl rfl]
    have l1 : (1 : Int) ≤ P.length + 1 := by omega
    have l2 : (-1 + ((P.length : Int) + 1)).toNat = P.length := by omega
    have l3 : (P ++ [rec4 p0 p1 q0 q1 s m])[P.length]? = some (rec4 p0 p1 q0 q1 s m) := by simp
    simp [-Res.bind, -List.map_map, -MP.opt, -Res.noexc, DR.def_, ev_var, ev_con, ev_glob, ev_bin, ev_neg, negR_int, ev_cmp, ev_chain, ev_isN, ev_notN, ev_band, ev_bor, ev_bnot, ev_ife, ev_tup, ev_lst, ev_newObj, ev_sub, ev_slice, ev_rev, ev_call, ev_blt, ev_meth, ev_isinst, ev_lrg, lrgR, ev_lrg2, lrgR2, ev_lc, ev_skip, ev_seq, seqR_nx, seqR_rt, seqR_bk, seqR_ct, ev_expr, ev_asg, ev_par, unpR, ev_unp, setIR, ev_setI, ev_setO, ev_app, extR, ev_ext, ev_ret, ev_if, ev_whl, ev_for, ev_brk, ev_cont, ev_frz, ev_kill, killR_nx, killR_rt, killR_bk, ev_never, endR_rt, endR_nx, evEs, evBs, evIt, evOp, evC, evR, evRs, bindR_ok, bindR_bad, bindR_exc, bind_ite, optR_some, optR_none, opt_ite, noexc_ok, startS, getB, getS, subV, subD, atI, ixN, setv, setvs, setAll, bindT, wipe, frz, ownS, ownL, truthV, cmpV, binV, isinstV, lenV, bltV, isNV, mthTy, optI, sz, r_neighbours_of, d_neighbours_of, ru, ne, l1, l2, l3, mo]
theorem t_behind {n : Nat} (hn : 37 < n) (a b : Int) (h : MH) (b2 : 2 ≤ b) (c : gc a b = 1) (ha : Lt 299 a) (hb : Lt 300 b) : ∃ w0 w1, T n 37 [fr a b, .int b] h = .ok (fr w0 w1) h ∧ Ends' a b w0 w1 := by
  obtain ⟨w0, w1, e, q⟩ := t_neighbours (n := 37) (by omega) a b h b2 c ha hb
  refine ⟨w0, w1, ?_, q⟩
  rw [T_run hn rfl rfl]
  simp [-Res.bind, -List.map_map, -MP.opt, -Res.noexc, DR.def_, ev_var, ev_con, ev_glob, ev_bin, ev_neg, negR_int, ev_cmp, ev_chain, ev_isN, ev_notN, ev_band, ev_bor, ev_bnot, ev_ife, ev_tup, ev_lst, ev_newObj, ev_sub, ev_slice, ev_rev, ev_call, ev_blt, ev_meth, ev_isinst, ev_lrg, lrgR, ev_lrg2, lrgR2, ev_lc, ev_skip, ev_seq, seqR_nx, seqR_rt, seqR_bk, seqR_ct, ev_expr, ev_asg, ev_par, unpR, ev_unp, setIR, ev_setI, ev_setO, ev_app, extR, ev_ext, ev_ret, ev_if, ev_whl, ev_for, ev_brk, ev_cont, ev_frz, ev_kill, killR_nx, killR_rt, killR_bk, ev_never, endR_rt, endR_nx, evEs, evBs, evIt, evOp, evC, evR, evRs, bindR_ok, bindR_bad, bindR_exc, bind_ite, optR_some, optR_none, opt_ite, noexc_ok, startS, getB, getS, subV, subD, atI, ixN, setv, setvs, setAll, bindT, wipe, frz, ownS, ownL, truthV, cmpV, binV, isinstV, lenV, bltV, isNV, mthTy, optI, sz, r_behind, d_behind, e]
theorem t_ahead {n : Nat} (hn : 38 < n) (a b : Int) (h : MH) (b2 : 2 ≤ b) (c : gc a b = 1) (ha : Lt 299 a) (hb : Lt 300 b) : ∃ w0 w1, T n 38 [fr a b, .int b] h = .ok (fr (-w0) w1) h ∧ Ends' (-a) b w0 w1 := by
  obtain ⟨w0, w1, e, q⟩ := t_behind (n := 38) (by omega) (-a) b h b2 (by rw [gc_neg]; exact c) ha.neg hb
  refine ⟨w0, w1, ?_, q⟩
  rw [T_run hn rfl rfl]
  simp [-Res.bind, -List.map_map, -MP.opt, -Res.noexc, DR.def_, ev_var, ev_con, ev_glob, ev_bin, ev_neg, negR_int, ev_cmp, ev_chain, ev_isN, ev_notN, ev_band, ev_bor, ev_bnot, ev_ife, ev_tup, ev_lst, ev_newObj, ev_sub, ev_slice, ev_rev, ev_call, ev_blt, ev_meth, ev_isinst, ev_lrg, lrgR, ev_lrg2, lrgR2, ev_lc, ev_skip, ev_seq, seqR_nx, seqR_rt, seqR_bk, seqR_ct, ev_expr, ev_asg, ev_par, unpR, ev_unp, setIR, ev_setI, ev_setO, ev_app, extR, ev_ext, ev_ret, ev_if, ev_whl, ev_for, ev_brk, ev_cont, ev_frz, ev_kill, killR_nx, killR_rt, killR_bk, ev_never, endR_rt, endR_nx, evEs, evBs, evIt, evOp, evC, evR, evRs, bindR_ok, bindR_bad, bindR_exc, bind_ite, optR_some, optR_none, opt_ite, noexc_ok, startS, getB, getS, subV, subD, atI, ixN, setv, setvs, setAll, bindT, wipe, frz, ownS, ownL, truthV, cmpV, binV, isinstV, lenV, bltV, isNV, mthTy, optI, sz, r_ahead, d_ahead, e]
theorem t_parents {n : Nat} (hn : 39 < n) (t : List Bool) (hl : t.length ≤ 200) (h : MH) (b2 : low t ≠ 1) (r0 : (trn t).r ≠ 0) : T n 39 [fr (top t) (low t)] h = .ok (.tup [fr (trn t).q (trn t).s, fr (trn t).p (trn t).r]) h := by
  have c : gc (top t) (low t) = 1 := by simp only [gc, cop]; rfl
  have d := det_trn t
  have ps := pos_trn t
  have p1 := ps.p1
  have q0 := ps.q0
  have rr := ps.r0
  have s1 := ps.s1
  simp only [M2.det] at d
  have lp := low_pos t
  have szb : ∀ x : Int, 0 ≤ x → x ≤ 2 ^ t.length → Lt 299 x := fun x h0 hx => Lt.mono (k := t.length + 1) (pos_lt h0 (by have : (0 : Int) < 2 ^ t.length := Int.pow_pos (by omega); rw [Int.pow_succ]; omega)) (by omega)
  have sa := szb (top t) (by have := top_pos t; omega) (top_le t)
  have sb := (szb (low t) (by omega) (low_le t)).mono (l := 300) (by omega)
  obtain ⟨w0, w1, e1, q1⟩ := t_behind (n := 39) (by omega) (top t) (low t) h (by omega) c sa sb
  obtain ⟨x0, x1, e2, q2⟩ := t_ahead (n := 39) (by omega) (top t) (low t) h (by omega) c sa sb
  have i1 : (trn t).p * low t - top t * (trn t).r = 1 := by
    simp only [top, low, Int.mul_add, Int.add_mul]
    omega
  have i2 : -(trn t).q * low t - -(top t) * (trn t).s = 1 := by
    simp only [top, low, Int.mul_add, Int.add_mul, Int.neg_mul, Int.neg_add]
    have := Int.mul_comm (trn t).q (trn t).s
    omega
  obtain ⟨rfl, rfl⟩ := nb_uniq c q1.e i1 q1.hw q1.wb (by omega) (by simp only [low]; omega)
  obtain ⟨rfl, rfl⟩ := nb_uniq (by rw [gc_neg]; exact c) q2.e i2 q2.hw q2.wb s1 (by simp only [low]; omega)
  rw [Int.neg_neg] at e2
  rw [T_run hn rfl rfl]
  simp [-Res.bind, -List.map_map, -MP.opt, -Res.noexc, DR.def_, ev_var, ev_con, ev_glob, ev_bin, ev_neg, negR_int, ev_cmp, ev_chain, ev_isN, ev_notN, ev_band, ev_bor, ev_bnot, ev_ife, ev_tup, ev_lst, ev_newObj, ev_sub, ev_slice, ev_rev, ev_call, ev_blt, ev_meth, ev_isinst, ev_lrg, lrgR, ev_lrg2, lrgR2, ev_lc, ev_skip, ev_seq, seqR_nx, seqR_rt, seqR_bk, seqR_ct, ev_expr, ev_asg, ev_par, unpR, ev_unp, setIR, ev_setI, ev_setO, ev_app, extR, ev_ext, ev_ret, ev_if, ev_whl, ev_for, ev_brk, ev_cont, ev_frz, ev_kill, killR_nx, killR_rt, killR_bk, ev_never, endR_rt, endR_nx, evEs, evBs, evIt, evOp, evC, evR, evRs, bindR_ok, bindR_bad, bindR_exc, bind_ite, optR_some, optR_none, opt_ite, noexc_ok, startS, getB, getS, subV, subD, atI, ixN, setv, setvs, setAll, bindT, wipe, frz, ownS, ownL, truthV, cmpV, binV, isinstV, lenV, bltV, isNV, mthTy, optI, sz, r_parents, d_parents, t_check_fraction _ _ _ h (by omega) c, eqo, pureLe, eqv, b2, e1, e2]
end LawP
set_option maxHeartbeats 2000000
set_option autoImplicit false
namespace LawP
open MP
theorem eqo_int (a b : Int) : eqo (.int a) (.int b) = some (a == b) := rfl
theorem eqo_str (x y : Tx) : eqo (.str x) (.str y) = some (x == y) := rfl
theorem eqo_fr (a b c d : Int) : eqo (fr a b) (fr c d) = some (a == c && b == d) := by
  simp [eqo, pureLe, purLes, eqv, eqvs]
theorem eqo_q4 (a b c d a' b' c' d' : Int) : eqo (q4 a b c d) (q4 a' b' c' d') = some (a == a' && (b == b' && (c == c' && d == d'))) := by
  simp [eqo, pureLe, purLes, eqv, eqvs]
theorem eqo_ff (a b c d a' b' c' d' : Int) : eqo (.tup [fr a b, fr c d]) (.tup [fr a' b', fr c' d']) = some ((a == a' && b == b') && (c == c' && d == d')) := by
  simp [eqo, pureLe, purLes, eqv, eqvs]
theorem top_app (t u : List Bool) : top (t ++ u) = top u * (trn t).p + (trn t).q * low u ∧ low (t ++ u) = top u * (trn t).r + (trn t).s * low u := by
  simp only [top, low, trn_append, M2.mul, Int.add_mul, Int.mul_add]
  constructor
  · have := Int.mul_comm (trn u).p (trn t).p
    have := Int.mul_comm (trn u).q (trn t).p
    omega
  · have := Int.mul_comm (trn u).p (trn t).r
    have := Int.mul_comm (trn u).q (trn t).r
    omega
theorem gcop (t : List Bool) : gc (top t) (low t) = 1 := by simp only [gc, cop]; rfl
theorem st_app (t u : List Bool) : (Val.str (enc t ++ enc u)) = st (t ++ u) := by simp [enc]
theorem map_app (t u : List Bool) : List.map sg t ++ List.map sg u = List.map sg (t ++ u) := (List.map_append ..).symm
theorem app_one (t : List Bool) : trn (t ++ [true]) = ⟨(trn t).p, (trn t).p + (trn t).q, (trn t).r, (trn t).r + (trn t).s⟩ ∧ trn (t ++ [false]) = ⟨(trn t).p + (trn t).q, (trn t).q, (trn t).r + (trn t).s, (trn t).s⟩ := by
  constructor <;> simp [trn_append, trn, M2.mul, stp, M2.one]
theorem lt_pow {t : List Bool} {k : Nat} {x : Int} (h0 : 0 ≤ x) (h : x ≤ 2 ^ t.length) (hk : t.length + 1 ≤ k) : Lt k x := Lt.mono (k := t.length + 1) (pos_lt h0 (by have : (0 : Int) < 2 ^ t.length := Int.pow_pos (by omega); rw [Int.pow_succ]; omega)) hk
theorem row_pure {h : MH} (t u : List Bool) (lt : t.length < 60) (lu : u.length < 60) :
    evS (T 48) ckP (.seq
 (.ife (.bor (.bnot (.call 16 (.cons (.var 3) .nil))) (.bnot (.call 16 (.cons (.var 4) .nil)))) (.seq
  (.ret (.con (.bl false))) .skip) .skip) (.seq
 (.asg 1 (.e (.call 1 (.cons (.bin .add (.var 3) (.var 4)) .nil)))) (.seq
 (.ife (.bor (.cmp .ne (.var 1) (.call 11 (.cons (.bin .add (.var 3) (.var 4)) .nil))) (.cmp .ne (.call 21 (.cons (.call 44 (.cons (.call 47 (.cons (.call 1 (.cons (.var 4) .nil)) .nil)) (.cons (.call 10 (.cons (.var 3) .nil)) .nil))) .nil)) (.var 1))) (.seq
  (.ret (.con (.bl false))) .skip) .skip) .skip))) [.e, .e, .e, .v (st t), .v (st u), .e, .e, .e, .e, .e, .e] h = .ok (.nx [.e, .v (fr (top (t ++ u)) (low (t ++ u))), .e, .v (st t), .v (st u), .e, .e, .e, .e, .e, .e]) h := by
  have lz : t.length + u.length ≤ 16777216 := by omega
  have la : (t ++ u).length ≤ 2000 := by rw [List.length_append]; omega
  obtain ⟨a1, a2⟩ := top_app t u
  have tn := t_turned (n := 48) (by omega) (trn t) (top u) (low u) h (tsm_trn t (by omega)) (top_pos u) (low_pos u) (lt_pow (t := u) (by have := top_pos u; omega) (top_le u) (by omega)) (lt_pow (t := u) (by have := low_pos u; omega) (low_le u) (by omega)) (gcop u) (by rw [← a1, ← a2]; exact gcop (t ++ u))
  rw [← a1, ← a2] at tn
  have af := t_as_fraction (n := 48) (by omega) (top (t ++ u)) (low (t ++ u)) h (low_pos _) (gcop _)
  have an := t_as_number (n := 48) (by omega) (top u) (low u) h (low_pos _) (gcop _)
  simp [-Res.bind, -List.map_map, -MP.opt, -Res.noexc, DR.def_, ev_var, ev_con, ev_glob, ev_bin, ev_neg, negR_int, ev_cmp, ev_chain, ev_isN, ev_notN, ev_band, ev_bor, ev_bnot, ev_ife, ev_tup, ev_lst, ev_newObj, ev_sub, ev_slice, ev_rev, ev_call, ev_blt, ev_meth, ev_isinst, ev_lrg, lrgR, ev_lrg2, lrgR2, ev_lc, ev_skip, ev_seq, seqR_nx, seqR_rt, seqR_bk, seqR_ct, ev_expr, ev_asg, ev_par, unpR, ev_unp, setIR, ev_setI, ev_setO, ev_app, extR, ev_ext, ev_ret, ev_if, ev_whl, ev_for, ev_brk, ev_cont, ev_frz, ev_kill, killR_nx, killR_rt, killR_bk, ev_never, endR_rt, endR_nx, evEs, evBs, evIt, evOp, evC, evR, evRs, bindR_ok, bindR_bad, bindR_exc, bind_ite, optR_some, optR_none, opt_ite, noexc_ok, startS, getB, getS, subV, subD, atI, ixN, setv, setvs, setAll, bindT, wipe, frz, ownS, ownL, truthV, cmpV, binV, isinstV, lenV, bltV, isNV, mthTy, optI, sz, t_back (n := 48) (by omega) t (by omega) h, t_back (n := 48) (by omega) u (by omega) h, lz, -List.map_append, map_app, t_by_road' (n := 48) (by omega) (t ++ u) la h, t_end (n := 48) (by omega) (t ++ u) la h, t_by_road' (n := 48) (by omega) u (by omega) h, an, t_turn (n := 48) (by omega) t (by omega) h, tn, af, eqo_fr]
theorem mid_one {h : MH} (t : List Bool) (hl : t.length < 60) (r1 : 1 ≤ (trn t).r) : T 48 46 [fr (top t) (low t), fr (trn t).p (trn t).r] h = .ok (fr (top (t ++ [true])) (low (t ++ [true]))) h := by
  have c1 : gc (trn t).p (trn t).r = 1 := by
    have d := det_trn t
    simp only [M2.det] at d
    have := gcd_one_of (x := (trn t).p) (y := (trn t).r) (u := (trn t).s) (v := -(trn t).q) (by rw [Int.mul_neg]; have := Int.mul_comm (trn t).r (trn t).q; omega)
    simp only [gc, this]; rfl
  have e : top t + (trn t).p = top (t ++ [true]) ∧ low t + (trn t).r = low (t ++ [true]) := by
    simp only [top, low, (app_one t).1]
    constructor <;> omega
  have g := gcop (t ++ [true])
  have sm : Sm (low (t ++ [true])) := low_sm _ (by simp; omega)
  have m := t_middle (n := 48) (by omega) (top t) (low t) (trn t).p (trn t).r h (low_pos t) (gcop t) r1 c1 (by rw [e.2]; exact sm)
  rw [e.1, e.2, g, Int.fdiv_one, Int.fdiv_one] at m
  exact m
theorem mid_two {h : MH} (t : List Bool) (hl : t.length < 60) : T 48 46 [fr (top t) (low t), fr (trn t).q (trn t).s] h = .ok (fr (top (t ++ [false])) (low (t ++ [false]))) h := by
  have c1 : gc (trn t).q (trn t).s = 1 := by
    have d := det_trn t
    simp only [M2.det] at d
    have := gcd_one_of (x := (trn t).q) (y := (trn t).s) (u := -(trn t).r) (v := (trn t).p) (by rw [Int.mul_neg]; have := Int.mul_comm (trn t).s (trn t).p; omega)
    simp only [gc, this]; rfl
  have e : top t + (trn t).q = top (t ++ [false]) ∧ low t + (trn t).s = low (t ++ [false]) := by
    have q := (app_one t).2
    simp only [top, low, q]
    constructor <;> first | trivial | omega
  have g := gcop (t ++ [false])
  have sm : Sm (low (t ++ [false])) := low_sm _ (by simp; omega)
  have m := t_middle (n := 48) (by omega) (top t) (low t) (trn t).q (trn t).s h (low_pos t) (gcop t) (pos_trn t).s1 c1 (by rw [e.2]; exact sm)
  rw [e.1, e.2, g, Int.fdiv_one, Int.fdiv_one] at m
  exact m
theorem row_draw {h h1 h2 : MH} {k : Nat} {t u : List Bool} (e1 : evE (T 48) false eDraw [.v (.obj k), .e, .e, .e, .e, .e, .e, .e, .e, .v (.int 0), .e] h = .ok (st t) h1) (e2 : evE (T 48) false eDraw [.v (.obj k), .e, .e, .e, .e, .e, .e, .e, .e, .v (.int 1), .e] h1 = .ok (st u) h2) :
    mapR (turnLc (T 48) [9] (.name 9) .no eDraw [.v (.obj k), .e, .e, .e, .e, .e, .e, .e, .e, .e, .e]) [.int 0, .int 1] h = .ok [st t, st u] h2 := by
  have f1 : turnLc (T 48) [9] (.name 9) .no eDraw [.v (.obj k), .e, .e, .e, .e, .e, .e, .e, .e, .e, .e] (.int 0) h = (evE (T 48) false eDraw [.v (.obj k), .e, .e, .e, .e, .e, .e, .e, .e, .v (.int 0), .e] h).noexc.bind fun v h => .ok (some v) h := rfl
  have f2 : turnLc (T 48) [9] (.name 9) .no eDraw [.v (.obj k), .e, .e, .e, .e, .e, .e, .e, .e, .e, .e] (.int 1) h1 = (evE (T 48) false eDraw [.v (.obj k), .e, .e, .e, .e, .e, .e, .e, .e, .v (.int 1), .e] h1).noexc.bind fun v h => .ok (some v) h := rfl
  rw [e1] at f1
  rw [e2] at f2
  rw [mapR, f1]
  simp only [noexc_ok, bindR_ok]
  rw [mapR, f2]
  simp only [noexc_ok, bindR_ok, mapR]
theorem t_row {h : MH} {k m : Nat} (p : Pot h k m) (hm : m + 300 < 2 ^ 20) : ∃ h', T 61 48 [.obj k] h = .ok (.bl true) h' ∧ Pot h' k (m + 122) := by
  obtain ⟨t, h1, e1, lt, p1⟩ := draw_road 0 p (by omega)
  obtain ⟨u, h2, e2, lu, p2⟩ := draw_road 1 p1 (by omega)
  refine ⟨h2, ?_, p2⟩
  have lz : t.length + u.length ≤ 16777216 := by omega
  have lz1 : t.length + 1 ≤ 16777216 := by omega
  have la : (t ++ u).length ≤ 2000 := by rw [List.length_append]; omega
  obtain ⟨a1, a2⟩ := top_app t u
  have tn := t_turned (n := 48) (by omega) (trn t) (top u) (low u) h2 (tsm_trn t (by omega)) (top_pos u) (low_pos u) (lt_pow (t := u) (by have := top_pos u; omega) (top_le u) (by omega)) (lt_pow (t := u) (by have := low_pos u; omega) (low_le u) (by omega)) (gcop u) (by rw [← a1, ← a2]; exact gcop (t ++ u))
  rw [← a1, ← a2] at tn
  have af := t_as_fraction (n := 48) (by omega) (top (t ++ u)) (low (t ++ u)) h2 (low_pos _) (gcop _)
  have an := t_as_number (n := 48) (by omega) (top u) (low u) h2 (low_pos _) (gcop _)
  have tf := t_after (n := 48) (by omega) (trn t) (trn u) h2 (tsm_trn t (by omega)) (tsm_trn u (by omega))
  rw [← trn_append] at tf
  have rd1 := t_road (n := 48) (by omega) (t ++ u) la h2
  have s1 := (pos_trn t).s1
  have r0 := (pos_trn t).r0
  have s0 : 0 < (trn t).s := by omega
  have sn : ¬ (trn t).s = 0 := by omega
  have b1 := t_by_road' (n := 48) (by omega) (t ++ [true]) (by simp; omega) h2
  have b2 := t_by_road' (n := 48) (by omega) (t ++ [false]) (by simp; omega) h2
  have w1 : List.map sg t ++ [82] = List.map sg (t ++ [true]) := by simp [sg]
  have w2 : List.map sg t ++ [76] = List.map sg (t ++ [false]) := by simp [sg]
  have mt := mid_two (h := h2) t lt
  have dr := row_draw e1 e2
  rw [T_run (by omega) rfl rfl]
  by_cases hr : (trn t).r = 0
  · simp [-Res.bind, -List.map_map, -MP.opt, -Res.noexc, DR.def_, ev_var, ev_con, ev_glob, ev_bin, ev_neg, negR_int, ev_cmp, ev_chain, ev_isN, ev_notN, ev_band, ev_bor, ev_bnot, ev_ife, ev_tup, ev_lst, ev_newObj, ev_sub, ev_slice, ev_rev, ev_call, ev_blt, ev_meth, ev_isinst, ev_lrg, lrgR, ev_lrg2, lrgR2, ev_lc, ev_skip, ev_seq, seqR_nx, seqR_rt, seqR_bk, seqR_ct, ev_expr, ev_asg, ev_par, unpR, ev_unp, setIR, ev_setI, ev_setO, ev_app, extR, ev_ext, ev_ret, ev_if, ev_whl, ev_for, ev_brk, ev_cont, ev_frz, ev_kill, killR_nx, killR_rt, killR_bk, ev_never, endR_rt, endR_nx, evEs, evBs, evIt, evOp, evC, evR, evRs, bindR_ok, bindR_bad, bindR_exc, bind_ite, optR_some, optR_none, opt_ite, noexc_ok, startS, getB, getS, subV, subD, atI, ixN, setv, setvs, setAll, bindT, wipe, frz, ownS, ownL, truthV, cmpV, binV, isinstV, lenV, bltV, isNV, mthTy, optI, sz, r__law_is_row_right, d__law_is_row_right, dr, t_back (n := 48) (by omega) t (by omega) h2, t_back (n := 48) (by omega) u (by omega) h2, lz, lz1, -List.map_append, map_app, w1, w2, t_by_road' (n := 48) (by omega) (t ++ u) la h2, t_end (n := 48) (by omega) (t ++ u) la h2, t_by_road' (n := 48) (by omega) u (by omega) h2, t_by_road' (n := 48) (by omega) t (by omega) h2, an, t_turn (n := 48) (by omega) t (by omega) h2, t_turn (n := 48) (by omega) u (by omega) h2, t_turn (n := 48) (by omega) (t ++ u) la h2, tn, af, tf, rd1, eqo_fr, eqo_int, eqo_str, eqo_q4, eqo_ff, s0, sn, mt, b1, b2, hr]
  · have r1 : 0 < (trn t).r := by omega
    have mo := mid_one (h := h2) t lt (by omega)
    have hl1 : low t ≠ 1 := by simp only [low]; omega
    have pa := t_parents (n := 48) (by omega) t (by omega) h2 hl1 hr
    simp [-Res.bind, -List.map_map, -MP.opt, -Res.noexc, DR.def_, ev_var, ev_con, ev_glob, ev_bin, ev_neg, negR_int, ev_cmp, ev_chain, ev_isN, ev_notN, ev_band, ev_bor, ev_bnot, ev_ife, ev_tup, ev_lst, ev_newObj, ev_sub, ev_slice, ev_rev, ev_call, ev_blt, ev_meth, ev_isinst, ev_lrg, lrgR, ev_lrg2, lrgR2, ev_lc, ev_skip, ev_seq, seqR_nx, seqR_rt, seqR_bk, seqR_ct, ev_expr, ev_asg, ev_par, unpR, ev_unp, setIR, ev_setI, ev_setO, ev_app, extR, ev_ext, ev_ret, ev_if, ev_whl, ev_for, ev_brk, ev_cont, ev_frz, ev_kill, killR_nx, killR_rt, killR_bk, ev_never, endR_rt, endR_nx, evEs, evBs, evIt, evOp, evC, evR, evRs, bindR_ok, bindR_bad, bindR_exc, bind_ite, optR_some, optR_none, opt_ite, noexc_ok, startS, getB, getS, subV, subD, atI, ixN, setv, setvs, setAll, bindT, wipe, frz, ownS, ownL, truthV, cmpV, binV, isinstV, lenV, bltV, isNV, mthTy, optI, sz, r__law_is_row_right, d__law_is_row_right, dr, t_back (n := 48) (by omega) t (by omega) h2, t_back (n := 48) (by omega) u (by omega) h2, lz, lz1, -List.map_append, map_app, w1, w2, t_by_road' (n := 48) (by omega) (t ++ u) la h2, t_end (n := 48) (by omega) (t ++ u) la h2, t_by_road' (n := 48) (by omega) u (by omega) h2, t_by_road' (n := 48) (by omega) t (by omega) h2, an, t_turn (n := 48) (by omega) t (by omega) h2, t_turn (n := 48) (by omega) u (by omega) h2, t_turn (n := 48) (by omega) (t ++ u) la h2, tn, af, tf, rd1, eqo_fr, eqo_int, eqo_str, eqo_q4, eqo_ff, s0, sn, mt, mo, b1, b2, hr, r1, hl1, pa]
end LawP
set_option maxHeartbeats 2000000
set_option autoImplicit false
namespace LawP
open MP
abbrev tl (l : List Int) : Val := .tup (l.map Val.int)
def cf (m : M2) (x : Int) : M2 := ⟨m.p * x + m.q, m.p, m.r * x + m.s, m.r⟩
def trm (l : List Int) : M2 := l.foldl cf M2.one
theorem body_cf (X : Sl) (h : MH) (m : M2) (x : Int) (h1 : mulOk m.p x = true) (h2 : mulOk m.r x = true) : forB (T 53) ckP (.name 1) l1_turn_of (.int x) [X, .e, .v (.int m.p), .v (.int m.q), .v (.int m.r), .v (.int m.s)] h = .ok (.nx [X, .e, .v (.int (cf m x).p), .v (.int (cf m x).q), .v (.int (cf m x).r), .v (.int (cf m x).s)]) h := by
  simp [-Res.bind, -List.map_map, -MP.opt, -Res.noexc, DR.def_, ev_var, ev_con, ev_glob, ev_bin, ev_neg, negR_int, ev_cmp, ev_chain, ev_isN, ev_notN, ev_band, ev_bor, ev_bnot, ev_ife, ev_tup, ev_lst, ev_newObj, ev_sub, ev_slice, ev_rev, ev_call, ev_blt, ev_meth, ev_isinst, ev_lrg, lrgR, ev_lrg2, lrgR2, ev_lc, ev_skip, ev_seq, seqR_nx, seqR_rt, seqR_bk, seqR_ct, ev_expr, ev_asg, ev_par, unpR, ev_unp, setIR, ev_setI, ev_setO, ev_app, extR, ev_ext, ev_ret, ev_if, ev_whl, ev_for, ev_brk, ev_cont, ev_frz, ev_kill, killR_nx, killR_rt, killR_bk, ev_never, endR_rt, endR_nx, evEs, evBs, evIt, evOp, evC, evR, evRs, bindR_ok, bindR_bad, bindR_exc, bind_ite, optR_some, optR_none, opt_ite, noexc_ok, startS, getB, getS, subV, subD, atI, ixN, setv, setvs, setAll, bindT, wipe, frz, ownS, ownL, truthV, cmpV, binV, isinstV, lenV, bltV, isNV, mthTy, optI, sz, forB, l1_turn_of, cf, h1, h2]
theorem bools_true {α : Type} : ∀ l : List α, boolsOf (l.map fun _ => Val.bl true) = some (l.map fun _ => true)
  | [] => rfl
  | a :: l => by simp [boolsOf, bools_true l]
theorem all_true {α : Type} : ∀ l : List α, (l.map fun _ => true).all id = true
  | [] => rfl
  | a :: l => by simp
theorem ones_mp (l : List Int) (hl : ∀ x ∈ l, 1 ≤ x) (X : Sl) (h : MH) : mapR (turnLc (T 50) [1] (.name 1) .no (.band (.call 4 (.cons (.var 1) .nil)) (.cmp .ge (.var 1) (.con (.int 1)))) [X, .e]) (l.map Val.int) h = .ok (l.map fun _ => Val.bl true) h := by
  refine mapR_pure Val.int _ l fun x hx => ?_
  have := hl x hx
  simp [-Res.bind, -List.map_map, -MP.opt, -Res.noexc, DR.def_, ev_var, ev_con, ev_glob, ev_bin, ev_neg, negR_int, ev_cmp, ev_chain, ev_isN, ev_notN, ev_band, ev_bor, ev_bnot, ev_ife, ev_tup, ev_lst, ev_newObj, ev_sub, ev_slice, ev_rev, ev_call, ev_blt, ev_meth, ev_isinst, ev_lrg, lrgR, ev_lrg2, lrgR2, ev_lc, ev_skip, ev_seq, seqR_nx, seqR_rt, seqR_bk, seqR_ct, ev_expr, ev_asg, ev_par, unpR, ev_unp, setIR, ev_setI, ev_setO, ev_app, extR, ev_ext, ev_ret, ev_if, ev_whl, ev_for, ev_brk, ev_cont, ev_frz, ev_kill, killR_nx, killR_rt, killR_bk, ev_never, endR_rt, endR_nx, evEs, evBs, evIt, evOp, evC, evR, evRs, bindR_ok, bindR_bad, bindR_exc, bind_ite, optR_some, optR_none, opt_ite, noexc_ok, startS, getB, getS, subV, subD, atI, ixN, setv, setvs, setAll, bindT, wipe, frz, ownS, ownL, truthV, cmpV, binV, isinstV, lenV, bltV, isNV, mthTy, optI, sz, turnLc, t_is_integer, this]
theorem t_are_ones {n : Nat} (hn : 50 < n) (l : List Int) (hl : ∀ x ∈ l, 1 ≤ x) (h : MH) : T n 50 [tl l] h = .ok (.bl true) h := by
  have al := all_true l
  rw [T_run hn rfl rfl]
  simp [-Res.bind, -List.map_map, -MP.opt, -Res.noexc, DR.def_, ev_var, ev_con, ev_glob, ev_bin, ev_neg, negR_int, ev_cmp, ev_chain, ev_isN, ev_notN, ev_band, ev_bor, ev_bnot, ev_ife, ev_tup, ev_lst, ev_newObj, ev_sub, ev_slice, ev_rev, ev_call, ev_blt, ev_meth, ev_isinst, ev_lrg, lrgR, ev_lrg2, lrgR2, ev_lc, ev_skip, ev_seq, seqR_nx, seqR_rt, seqR_bk, seqR_ct, ev_expr, ev_asg, ev_par, unpR, ev_unp, setIR, ev_setI, ev_setO, ev_app, extR, ev_ext, ev_ret, ev_if, ev_whl, ev_for, ev_brk, ev_cont, ev_frz, ev_kill, killR_nx, killR_rt, killR_bk, ev_never, endR_rt, endR_nx, evEs, evBs, evIt, evOp, evC, evR, evRs, bindR_ok, bindR_bad, bindR_exc, bind_ite, optR_some, optR_none, opt_ite, noexc_ok, startS, getB, getS, subV, subD, atI, ixN, setv, setvs, setAll, bindT, wipe, frz, ownS, ownL, truthV, cmpV, binV, isinstV, lenV, bltV, isNV, mthTy, optI, sz, r_are_ones, d_are_ones, ones_mp l hl, bools_true]
theorem pure_ints (k : Nat) : ∀ l : List Int, purLes k (l.map Val.int) = true
  | [] => by simp [purLes]
  | x :: l => by simp [purLes, pureLe, pure_ints k l]
theorem eqo_nil (l : List Int) : eqo (tl l) (.tup []) = some l.isEmpty := by
  unfold eqo
  have : pureLe 60 (tl l) = true := pure_ints 59 l
  rw [this]
  cases l <;> simp [pureLe, purLes, eqv, eqvs]
theorem ints_mp (l : List Int) (η : Env) (he : η = [.e, .v (tl l), .v (.tup []), .e, .e]) (h : MH) : mapR (turnLc (T 51) [4] (.name 4) .no (.call 4 (.cons (.var 4) .nil)) η) (l.map Val.int) h = .ok (l.map fun _ => Val.bl true) h := by
  subst he
  refine mapR_pure Val.int _ l fun x _ => ?_
  simp [-Res.bind, -List.map_map, -MP.opt, -Res.noexc, DR.def_, ev_var, ev_con, ev_glob, ev_bin, ev_neg, negR_int, ev_cmp, ev_chain, ev_isN, ev_notN, ev_band, ev_bor, ev_bnot, ev_ife, ev_tup, ev_lst, ev_newObj, ev_sub, ev_slice, ev_rev, ev_call, ev_blt, ev_meth, ev_isinst, ev_lrg, lrgR, ev_lrg2, lrgR2, ev_lc, ev_skip, ev_seq, seqR_nx, seqR_rt, seqR_bk, seqR_ct, ev_expr, ev_asg, ev_par, unpR, ev_unp, setIR, ev_setI, ev_setO, ev_app, extR, ev_ext, ev_ret, ev_if, ev_whl, ev_for, ev_brk, ev_cont, ev_frz, ev_kill, killR_nx, killR_rt, killR_bk, ev_never, endR_rt, endR_nx, evEs, evBs, evIt, evOp, evC, evR, evRs, bindR_ok, bindR_bad, bindR_exc, bind_ite, optR_some, optR_none, opt_ite, noexc_ok, startS, getB, getS, subV, subD, atI, ixN, setv, setvs, setAll, bindT, wipe, frz, ownS, ownL, truthV, cmpV, binV, isinstV, lenV, bltV, isNV, mthTy, optI, sz, turnLc, t_is_integer]
theorem cut1 (l : List Int) : cut (l.map Val.int) (some 1) none = (l.drop 1).map Val.int := by
  unfold cut sIx
  cases l with
  | nil => rfl
  | cons x l => simp [List.take_of_length_le]
theorem t_are_terms {n : Nat} (hn : 51 < n) (l : List Int) (z : Int) (hl : ∀ x ∈ l, 1 ≤ x) (hz : 2 ≤ z) (hlen : l.length ≤ 100) (h : MH) : T n 51 [.tup [tl (l ++ [z]), .tup []]] h = .ok (.bl true) h := by
  have o1 := t_are_ones (n := 51) (by omega) ((l ++ [z]).drop 1) (fun x hx => by
    rcases List.mem_append.mp (List.mem_of_mem_drop hx) with hx | hx
    · exact hl x hx
    · rw [List.mem_singleton] at hx; omega) h
  have o2 := t_are_ones (n := 51) (by omega) [] (by simp) h
  have im := ints_mp (l ++ [z]) _ rfl h
  have ct := cut1 (l ++ [z])
  have q1 : ¬ (2000 : Int) < (l.length : Int) + 1 := by omega
  have bt := bools_true (l ++ [z])
  have at_ := all_true (l ++ [z])
  have e1 := eqo_nil (l ++ [z])
  have e2 := eqo_nil []
  have l1 : (1 : Int) ≤ l.length + 1 := by omega
  have l2 : (-1 + ((l.length : Int) + 1)).toNat = l.length := by omega
  have l3 : (l ++ [z])[l.length]? = some z := by simp
  generalize hL : l ++ [z] = L at *
  have hLl : L.length = l.length + 1 := by rw [← hL]; simp
  have hLe : L.isEmpty = false := by rw [← hL]; simp
  rw [hLe] at e1
  have o1' : T 51 50 [.tup (L.map Val.int).tail] h = .ok (.bl true) h := by
    have : (L.map Val.int).tail = (L.drop 1).map Val.int := by cases L <;> rfl
    rw [this]; exact o1
  have ei : (Val.bl true :: ([] : List Val)) = [Val.bl true] := rfl
  have o2' : T 51 50 [.tup []] h = .ok (.bl true) h := o2
  have e2' : eqo (.tup []) (.tup []) = some true := e2
  rw [T_run hn rfl rfl]
  simp [-Res.bind, -List.map_map, -MP.opt, -Res.noexc, DR.def_, ev_var, ev_con, ev_glob, ev_bin, ev_neg, negR_int, ev_cmp, ev_chain, ev_isN, ev_notN, ev_band, ev_bor, ev_bnot, ev_ife, ev_tup, ev_lst, ev_newObj, ev_sub, ev_slice, ev_rev, ev_call, ev_blt, ev_meth, ev_isinst, ev_lrg, lrgR, ev_lrg2, lrgR2, ev_lc, ev_skip, ev_seq, seqR_nx, seqR_rt, seqR_bk, seqR_ct, ev_expr, ev_asg, ev_par, unpR, ev_unp, setIR, ev_setI, ev_setO, ev_app, extR, ev_ext, ev_ret, ev_if, ev_whl, ev_for, ev_brk, ev_cont, ev_frz, ev_kill, killR_nx, killR_rt, killR_bk, ev_never, endR_rt, endR_nx, evEs, evBs, evIt, evOp, evC, evR, evRs, bindR_ok, bindR_bad, bindR_exc, bind_ite, optR_some, optR_none, opt_ite, noexc_ok, startS, getB, getS, subV, subD, atI, ixN, setv, setvs, setAll, bindT, wipe, frz, ownS, ownL, truthV, cmpV, binV, isinstV, lenV, bltV, isNV, mthTy, optI, sz, r_are_terms, d_are_terms, mapR, turnLc, boolsOf, eqo_int, o1', o2', e2', im, slcV, ct, hLl, q1, bt, e1, e2, l1, l2, l3]
  split
  · rename_i h1; rw [h1]; rfl
  · have : L[l.length]'(by omega) = z := by
      have := l3
      rw [List.getElem?_eq_getElem (by omega)] at this
      exact Option.some.inj this
    rw [this]; simp [hz]
theorem t_check_terms {n : Nat} (hn : 52 < n) (l : List Int) (z : Int) (hl : ∀ x ∈ l, 1 ≤ x) (hz : 2 ≤ z) (hlen : l.length ≤ 100) (h : MH) : T n 52 [.tup [tl (l ++ [z]), .tup []]] h = .ok .non h := by
  have c := t_are_terms (n := 52) (by omega) l z hl hz hlen h
  rw [T_run hn rfl rfl]
  simp [-Res.bind, -List.map_map, -MP.opt, -Res.noexc, DR.def_, ev_var, ev_con, ev_glob, ev_bin, ev_neg, negR_int, ev_cmp, ev_chain, ev_isN, ev_notN, ev_band, ev_bor, ev_bnot, ev_ife, ev_tup, ev_lst, ev_newObj, ev_sub, ev_slice, ev_rev, ev_call, ev_blt, ev_meth, ev_isinst, ev_lrg, lrgR, ev_lrg2, lrgR2, ev_lc, ev_skip, ev_seq, seqR_nx, seqR_rt, seqR_bk, seqR_ct, ev_expr, ev_asg, ev_par, unpR, ev_unp, setIR, ev_setI, ev_setO, ev_app, extR, ev_ext, ev_ret, ev_if, ev_whl, ev_for, ev_brk, ev_cont, ev_frz, ev_kill, killR_nx, killR_rt, killR_bk, ev_never, endR_rt, endR_nx, evEs, evBs, evIt, evOp, evC, evR, evRs, bindR_ok, bindR_bad, bindR_exc, bind_ite, optR_some, optR_none, opt_ite, noexc_ok, startS, getB, getS, subV, subD, atI, ixN, setv, setvs, setAll, bindT, wipe, frz, ownS, ownL, truthV, cmpV, binV, isinstV, lenV, bltV, isNV, mthTy, optI, sz, r_check_terms, d_check_terms, c]
def bd (m : M2) (B : Int) : Prop := 0 ≤ m.p ∧ m.p ≤ B ∧ 0 ≤ m.q ∧ m.q ≤ B ∧ 0 ≤ m.r ∧ m.r ≤ B ∧ 0 ≤ m.s ∧ m.s ≤ B
end LawP
set_option maxHeartbeats 2000000
set_option autoImplicit false
namespace LawP
open MP
def g53 (X : Sl) (m : M2) : Env := [X, .e, .v (.int m.p), .v (.int m.q), .v (.int m.r), .v (.int m.s)]
theorem lt_cf {k : Nat} {a b x : Int} (ha : Lt k a) (hb : Lt k b) (hx : Lt 4 x) : Lt (k + 5) (a * x + b) := by
  have := (ha.mul hx).add (hb.mono (by omega : k ≤ k + 4))
  exact this
theorem loop53 (X : Sl) (h : MH) : ∀ (l : List Int) (k : Nat) (m : M2), (∀ x ∈ l, Lt 4 x) → Lt k m.p → Lt k m.q → Lt k m.r → Lt k m.s → k + 5 * l.length < 900000 →
    loopF (forB (T 53) ckP (.name 1) l1_turn_of) (l.map .int) (g53 X m) h = .ok (.nx (g53 X (l.foldl cf m))) h
  | [], k, m, _, _, _, _, _, _ => rfl
  | x :: l, k, m, hl, hp, hq, hr, hs, hk => by
    have hx := hl x (by simp)
    simp only [List.length_cons] at hk
    have b := body_cf X h m x (hp.mulOk hx (by omega)) (hr.mulOk hx (by omega))
    rw [List.map_cons, loopF]
    show (forB (T 53) ckP (.name 1) l1_turn_of (.int x) [X, .e, .v (.int m.p), .v (.int m.q), .v (.int m.r), .v (.int m.s)] h).bind _ = _
    rw [b, bindR_ok]
    exact loop53 X h l (k + 5) (cf m x) (fun y hy => hl y (by simp [hy])) (lt_cf hp hq hx) (hp.mono (by omega)) (lt_cf hr hs hx) (hr.mono (by omega)) (by omega)
theorem lt_one : Lt 1 (1 : Int) := by unfold Lt; decide
theorem lt_zero : Lt 1 (0 : Int) := by unfold Lt; decide
theorem t_turn_of {n : Nat} (hn : 53 < n) (l : List Int) (hl : ∀ x ∈ l, Lt 4 x) (hlen : l.length ≤ 100) (h : MH) : T n 53 [tl l] h = .ok (q4 (trm l).p (trm l).q (trm l).r (trm l).s) h := by
  have lp := loop53 (.v (tl l)) h l 1 M2.one hl lt_one lt_zero lt_zero lt_one (by omega)
  unfold g53 M2.one at lp
  rw [T_run hn rfl rfl]
  simp [-Res.bind, -List.map_map, -MP.opt, -Res.noexc, DR.def_, ev_var, ev_con, ev_glob, ev_bin, ev_neg, negR_int, ev_cmp, ev_chain, ev_isN, ev_notN, ev_band, ev_bor, ev_bnot, ev_ife, ev_tup, ev_lst, ev_newObj, ev_sub, ev_slice, ev_rev, ev_call, ev_blt, ev_meth, ev_isinst, ev_lrg, lrgR, ev_lrg2, lrgR2, ev_lc, ev_skip, ev_seq, seqR_nx, seqR_rt, seqR_bk, seqR_ct, ev_expr, ev_asg, ev_par, unpR, ev_unp, setIR, ev_setI, ev_setO, ev_app, extR, ev_ext, ev_ret, ev_if, ev_whl, ev_for, ev_brk, ev_cont, ev_frz, ev_kill, killR_nx, killR_rt, killR_bk, ev_never, endR_rt, endR_nx, evEs, evBs, evIt, evOp, evC, evR, evRs, bindR_ok, bindR_bad, bindR_exc, bind_ite, optR_some, optR_none, opt_ite, noexc_ok, startS, getB, getS, subV, subD, atI, ixN, setv, setvs, setAll, bindT, wipe, frz, ownS, ownL, truthV, cmpV, binV, isinstV, lenV, bltV, isNV, mthTy, optI, sz, r_turn_of, d_turn_of, lp, trm, M2.one]
end LawP
set_option maxHeartbeats 2000000
set_option autoImplicit false
namespace LawP
open MP
def cm (x : Int) : M2 := ⟨x, 1, 1, 0⟩
def M2.tp (m : M2) : M2 := ⟨m.p, m.r, m.q, m.s⟩
theorem cf_mul (m : M2) (x : Int) : cf m x = m.mul (cm x) := by
  simp [cf, M2.mul, cm]
theorem fold_cf : ∀ (l : List Int) (m : M2), l.foldl cf m = m.mul (trm l)
  | [], m => by simp [trm, M2.mul_one]
  | x :: l, m => by
    unfold trm
    rw [List.foldl_cons, List.foldl_cons, fold_cf l, fold_cf l, cf_mul, cf_mul, M2.one_mul, M2.mul_assoc]
theorem trm_nil : trm [] = M2.one := rfl
theorem trm_cons (x : Int) (l : List Int) : trm (x :: l) = (cm x).mul (trm l) := by
  show (l.foldl cf (cf M2.one x)) = _
  rw [fold_cf, cf_mul, M2.one_mul]
theorem trm_app (l k : List Int) : trm (l ++ k) = (trm l).mul (trm k) := by
  show (l ++ k).foldl cf M2.one = _
  rw [List.foldl_append, fold_cf]; rfl
theorem trm_one (x : Int) : trm [x] = cm x := by rw [trm_cons, trm_nil, M2.mul_one]
theorem tp_mul (a b : M2) : (a.mul b).tp = b.tp.mul a.tp := by
  simp only [M2.tp, M2.mul, M2.mk.injEq]
  refine ⟨?_, ?_, ?_, ?_⟩ <;> simp only [Int.mul_comm]
theorem trm_rev : ∀ l : List Int, trm l.reverse = (trm l).tp
  | [] => rfl
  | x :: l => by
    rw [List.reverse_cons, trm_app, trm_one, trm_rev l, trm_cons, tp_mul]; rfl
theorem det_trm : ∀ l : List Int, (trm l).det = if l.length % 2 = 0 then 1 else -1
  | [] => rfl
  | x :: l => by
    rw [trm_cons, det_mul, det_trm l]
    have : (cm x).det = -1 := by simp [cm, M2.det]
    rw [this, List.length_cons]
    split <;> split <;> omega
theorem trm_p (x : Int) (l : List Int) : (trm (x :: l)).p = x * (trm l).p + (trm l).r := by
  rw [trm_cons]; simp [M2.mul, cm]
theorem trm_r (x : Int) (l : List Int) : (trm (x :: l)).r = (trm l).p := by
  rw [trm_cons]; simp [M2.mul, cm]
theorem trm_big : ∀ (l : List Int) (z : Int), (∀ x ∈ l, 1 ≤ x) → 2 ≤ z → 1 ≤ (trm (l ++ [z])).r ∧ (trm (l ++ [z])).r < (trm (l ++ [z])).p
  | [], z, _, hz => by
    rw [List.nil_append, trm_one]; simp only [cm]; omega
  | x :: l, z, hl, hz => by
    have ih := trm_big l z (fun y hy => hl y (by simp [hy])) hz
    have hx := hl x (by simp)
    rw [List.cons_append, trm_p, trm_r]
    have : 1 * (trm (l ++ [z])).p ≤ x * (trm (l ++ [z])).p := Int.mul_le_mul_of_nonneg_right hx (by omega)
    omega
theorem trm_merge (l : List Int) (y : Int) : (trm (l ++ [y, 1])).p = (trm (l ++ [y + 1])).p ∧ (trm (l ++ [y, 1])).r = (trm (l ++ [y + 1])).r := by
  rw [trm_app, trm_app, trm_one, trm_cons, trm_one]
  simp only [M2.mul, cm, Int.mul_add, Int.add_mul, Int.mul_one]
  omega
theorem trm_gc (l : List Int) : gc (trm l).p (trm l).r = 1 := by
  have d := det_trm l
  have g1 : gc (trm l).p (trm l).r ∣ (trm l).p := gc_dl ..
  have g2 : gc (trm l).p (trm l).r ∣ (trm l).r := gc_dr ..
  have g3 : gc (trm l).p (trm l).r ∣ (trm l).det := Int.dvd_sub (Int.dvd_mul_of_dvd_left g1) (Int.dvd_mul_of_dvd_right g2)
  have h0 : 0 ≤ gc (trm l).p (trm l).r := by simp only [gc]; omega
  have g4 : gc (trm l).p (trm l).r ∣ 1 := by
    rw [d] at g3
    split at g3
    · exact g3
    · exact (Int.dvd_neg).mp g3
  exact Int.eq_one_of_dvd_one h0 g4
end LawP
set_option maxHeartbeats 2000000
set_option autoImplicit false
namespace LawP
open MP
theorem gc_step (x P R : Int) : gc (x * P + R) P = gc P R := by
  simp only [gc]
  have : Nat.gcd (x * P + R).natAbs P.natAbs = Int.gcd (x * P + R) P := rfl
  rw [this, Int.add_comm, Int.mul_comm]
  rw [show Int.gcd (R + P * x) P = Int.gcd R P from by rw [Int.gcd_add_mul_left_left]]
  rw [Int.gcd_comm]; rfl
theorem t_less_floor {n : Nat} (hn : 57 < n) (x P R : Int) (h : MH) (hP : Sm P) (hR0 : 0 ≤ R) (hR : R < P) (hx : Sm x) (ha : Sm (x * P + R)) (g : gc P R = 1) : T n 57 [rn (x * P + R) P] h = .ok (.tup [.int x, rn R P]) h := by
  have f := t_floor_of (n := 57) (by omega) (x * P + R) P h hP (by omega)
  have fd : (x * P + R).fdiv P = x := by
    rw [Int.fdiv_eq_ediv_of_nonneg _ (by omega), Int.add_comm, Int.add_mul_ediv_right _ _ (by omega), Int.ediv_eq_zero_of_lt hR0 hR]; omega
  rw [fd] at f
  have s := t_summed (n := 57) (by omega) (x * P + R) P (-x) 1 h ha hP (Lt.neg hx) Sm.one (by omega) (by rw [Int.mul_one]; exact hP)
  have e1 : (x * P + R) * 1 + -x * P = R := by rw [Int.neg_mul]; omega
  have g' : gc R P = 1 := by
    have := gc_step 0 P R
    rw [Int.zero_mul, Int.zero_add] at this; omega
  rw [e1, Int.mul_one, g', Int.fdiv_one, Int.fdiv_one] at s
  rw [T_run hn rfl rfl]
  simp [-Res.bind, -List.map_map, -MP.opt, -Res.noexc, DR.def_, ev_var, ev_con, ev_glob, ev_bin, ev_neg, negR_int, ev_cmp, ev_chain, ev_isN, ev_notN, ev_band, ev_bor, ev_bnot, ev_ife, ev_tup, ev_lst, ev_newObj, ev_sub, ev_slice, ev_rev, ev_call, ev_blt, ev_meth, ev_isinst, ev_lrg, lrgR, ev_lrg2, lrgR2, ev_lc, ev_skip, ev_seq, seqR_nx, seqR_rt, seqR_bk, seqR_ct, ev_expr, ev_asg, ev_par, unpR, ev_unp, setIR, ev_setI, ev_setO, ev_app, extR, ev_ext, ev_ret, ev_if, ev_whl, ev_for, ev_brk, ev_cont, ev_frz, ev_kill, killR_nx, killR_rt, killR_bk, ev_never, endR_rt, endR_nx, evEs, evBs, evIt, evOp, evC, evR, evRs, bindR_ok, bindR_bad, bindR_exc, bind_ite, optR_some, optR_none, opt_ite, noexc_ok, startS, getB, getS, subV, subD, atI, ixN, setv, setvs, setAll, bindT, wipe, frz, ownS, ownL, truthV, cmpV, binV, isinstV, lenV, bltV, isNV, mthTy, optI, sz, r_less_floor, d_less_floor, f, s]
end LawP
set_option maxHeartbeats 2000000
set_option autoImplicit false
namespace LawP
open MP
theorem Lt.trm : ∀ (l : List Int), (∀ x ∈ l, Lt 4 x) → Lt (5 * l.length + 1) (trm l).p ∧ Lt (5 * l.length + 1) (trm l).r
  | [], _ => ⟨lt_one, lt_zero⟩
  | x :: l, hl => by
    obtain ⟨h1, h2⟩ := Lt.trm l fun y hy => hl y (by simp [hy])
    rw [trm_p, trm_r]
    have hx := hl x (by simp)
    have := lt_cf h1 h2 hx
    rw [Int.mul_comm, List.length_cons]
    exact ⟨this.mono (by omega), h1.mono (by omega)⟩
theorem t_fraction_of {n : Nat} (hn : 55 < n) (l : List Int) (hl : ∀ x ∈ l, Lt 4 x) (hr : 1 ≤ (trm l).r) (hlen : l.length ≤ 100) (h : MH) : T n 55 [tl l] h = .ok (fr (trm l).p (trm l).r) h := by
  have a := t_turn_of (n := 55) (by omega) l hl hlen h
  have b := t_least_terms (n := 55) (by omega) (trm l).p (trm l).r h ((Lt.trm l hl).2.mono (by omega)) (by omega)
  rw [trm_gc, Int.fdiv_one, Int.fdiv_one] at b
  rw [T_run hn rfl rfl]
  simp [-Res.bind, -List.map_map, -MP.opt, -Res.noexc, DR.def_, ev_var, ev_con, ev_glob, ev_bin, ev_neg, negR_int, ev_cmp, ev_chain, ev_isN, ev_notN, ev_band, ev_bor, ev_bnot, ev_ife, ev_tup, ev_lst, ev_newObj, ev_sub, ev_slice, ev_rev, ev_call, ev_blt, ev_meth, ev_isinst, ev_lrg, lrgR, ev_lrg2, lrgR2, ev_lc, ev_skip, ev_seq, seqR_nx, seqR_rt, seqR_bk, seqR_ct, ev_expr, ev_asg, ev_par, unpR, ev_unp, setIR, ev_setI, ev_setO, ev_app, extR, ev_ext, ev_ret, ev_if, ev_whl, ev_for, ev_brk, ev_cont, ev_frz, ev_kill, killR_nx, killR_rt, killR_bk, ev_never, endR_rt, endR_nx, evEs, evBs, evIt, evOp, evC, evR, evRs, bindR_ok, bindR_bad, bindR_exc, bind_ite, optR_some, optR_none, opt_ite, noexc_ok, startS, getB, getS, subV, subD, atI, ixN, setv, setvs, setAll, bindT, wipe, frz, ownS, ownL, truthV, cmpV, binV, isinstV, lenV, bltV, isNV, mthTy, optI, sz, r_fraction_of, d_fraction_of, a, b]
theorem t_number_by {n : Nat} (hn : 56 < n) (l : List Int) (z : Int) (hl : ∀ x ∈ l, 1 ≤ x ∧ Lt 4 x) (hz : 2 ≤ z ∧ Lt 4 z) (hlen : l.length < 100) (h : MH) : T n 56 [.tup [tl (l ++ [z]), .tup []]] h = .ok (rn (trm (l ++ [z])).p (trm (l ++ [z])).r) h := by
  have c := t_check_terms (n := 56) (by omega) l z (fun x hx => (hl x hx).1) hz.1 (by omega) h
  have big := trm_big l z (fun x hx => (hl x hx).1) hz.1
  have f := t_fraction_of (n := 56) (by omega) (l ++ [z]) (fun x hx => by
    rcases List.mem_append.mp hx with hx | hx
    · exact (hl x hx).2
    · rw [List.mem_singleton] at hx; rw [hx]; exact hz.2) big.1 (by simp; omega) h
  have e2 : eqo (.tup []) (.tup []) = some true := eqo_nil []
  generalize l ++ [z] = L at *
  rw [T_run hn rfl rfl]
  simp [-Res.bind, -List.map_map, -MP.opt, -Res.noexc, DR.def_, ev_var, ev_con, ev_glob, ev_bin, ev_neg, negR_int, ev_cmp, ev_chain, ev_isN, ev_notN, ev_band, ev_bor, ev_bnot, ev_ife, ev_tup, ev_lst, ev_newObj, ev_sub, ev_slice, ev_rev, ev_call, ev_blt, ev_meth, ev_isinst, ev_lrg, lrgR, ev_lrg2, lrgR2, ev_lc, ev_skip, ev_seq, seqR_nx, seqR_rt, seqR_bk, seqR_ct, ev_expr, ev_asg, ev_par, unpR, ev_unp, setIR, ev_setI, ev_setO, ev_app, extR, ev_ext, ev_ret, ev_if, ev_whl, ev_for, ev_brk, ev_cont, ev_frz, ev_kill, killR_nx, killR_rt, killR_bk, ev_never, endR_rt, endR_nx, evEs, evBs, evIt, evOp, evC, evR, evRs, bindR_ok, bindR_bad, bindR_exc, bind_ite, optR_some, optR_none, opt_ite, noexc_ok, startS, getB, getS, subV, subD, atI, ixN, setv, setvs, setAll, bindT, wipe, frz, ownS, ownL, truthV, cmpV, binV, isinstV, lenV, bltV, isNV, mthTy, optI, sz, r_number_by, d_number_by, c, f, e2]
end LawP
set_option maxHeartbeats 2000000
set_option autoImplicit false
namespace LawP
open MP
abbrev ky (a b : Int) : List Ky := [.inl a, .inl 0, .inl b, .inl 0]
abbrev e58 (a b : Int) (F : List Val) (ks : List (List Ky)) (vs : List Val) : Env := [.v (rn a b), .o (.lst F), .o (.dT ks vs), .e, .e]
theorem hasK_low (a b : Int) (ks : List (List Ky)) (hk : ∀ k ∈ ks, ∃ c d, k = ky c d ∧ b < d) : hasK (ky a b) ks = false := by
  unfold hasK
  rw [List.any_eq_false]
  intro k h
  obtain ⟨c, d, e, l⟩ := hk k h
  subst e
  simp; omega
theorem hasK_ck (a b : Int) : hasK (ky a b) ckP = false := by
  simp [hasK, ckP]
theorem cnd58 (a b : Int) (F : List Val) (ks : List (List Ky)) (vs : List Val) (h : MH) (hk : hasK (ky a b) ks = false) : cndB (T 58) c1_terms_of (e58 a b F ks vs) h = .ok true h := by
  simp [-Res.bind, -List.map_map, -MP.opt, -Res.noexc, DR.def_, ev_var, ev_con, ev_glob, ev_bin, ev_neg, negR_int, ev_cmp, ev_chain, ev_isN, ev_notN, ev_band, ev_bor, ev_bnot, ev_ife, ev_tup, ev_lst, ev_newObj, ev_sub, ev_slice, ev_rev, ev_call, ev_blt, ev_meth, ev_isinst, ev_lrg, lrgR, ev_lrg2, lrgR2, ev_lc, ev_skip, ev_seq, seqR_nx, seqR_rt, seqR_bk, seqR_ct, ev_expr, ev_asg, ev_par, unpR, ev_unp, setIR, ev_setI, ev_setO, ev_app, extR, ev_ext, ev_ret, ev_if, ev_whl, ev_for, ev_brk, ev_cont, ev_frz, ev_kill, killR_nx, killR_rt, killR_bk, ev_never, endR_rt, endR_nx, evEs, evBs, evIt, evOp, evC, evR, evRs, bindR_ok, bindR_bad, bindR_exc, bind_ite, optR_some, optR_none, opt_ite, noexc_ok, startS, getB, getS, subV, subD, atI, ixN, setv, setvs, setAll, bindT, wipe, frz, ownS, ownL, truthV, cmpV, binV, isinstV, lenV, bltV, isNV, mthTy, optI, sz, cndB, c1_terms_of, keysOf, Val.keyOf, hk]
theorem put_dT (k : List Ky) (v : Val) : ∀ (ks : List (List Ky)) (vs : List Val), ks.length = vs.length → hasK k ks = false → put k v ks vs = (ks ++ [k], vs ++ [v])
  | [], [], _, _ => rfl
  | a :: ks, w :: vs, hl, hk => by
    have hk' : (decide (a = k) || hasK k ks) = false := hk
    rw [Bool.or_eq_false_iff, decide_eq_false_iff_not] at hk'
    rw [put, if_neg hk'.1, put_dT k v ks vs (by simpa using hl) hk'.2]; rfl
theorem eqo_zz (a b : Int) : eqo (.tup [.int a, .int 0]) (.tup [.int 0, .int 0]) = some (a == 0) := by
  rw [show (Val.tup [.int a, .int 0]) = fr a 0 from rfl, show (Val.tup [.int 0, .int 0]) = fr 0 0 from rfl, eqo_fr]; simp
end LawP
set_option maxHeartbeats 2000000
set_option autoImplicit false
namespace LawP
open MP
theorem inv_ok {n : Nat} (hn : 32 < n) (R P : Int) (h : MH) (hP : Sm P) (hR0 : 0 < R) (hR : R < P) (g : gc P R = 1) (s1 : Lt 1000 P) : T n 32 [rn R P] h = .ok (rn P R) h := by
  have sR : Lt 1000 R := by unfold Lt at *; omega
  have t := t_inverted hn R P h (sR.mono (by omega)) hP (Int.mul_pos hR0 hR0) ((sR.mul sR).mono (by omega))
  have e : gc (R * P) (R * R) = R := by
    rw [Int.mul_comm R P, gc_mul hR0, g, Int.one_mul]
  rw [e, Int.mul_fdiv_cancel_left _ (by omega), Int.mul_fdiv_cancel_left _ (by omega)] at t
  exact t
theorem putV58 (a b : Int) (v : Val) (ks : List (List Ky)) (vs : List Val) (hk : hasK (ky a b) ks = false) (hv : ks.length = vs.length) (hl : ks.length < MP.sz) : putV ckP (.dT ks vs) (rn a b) v = some (.dT (ks ++ [ky a b]) (vs ++ [v])) := by
  have p := put_dT (ky a b) v ks vs hv hk
  have c := hasK_ck a b
  show (if ks.length < MP.sz ∧ hasK (ky a b) ckP = false then some (let r := put (ky a b) v ks vs; Val.dT r.1 r.2) else none) = _
  rw [if_pos ⟨hl, c⟩, p]
theorem body58 (x P R : Int) (F : List Val) (ks : List (List Ky)) (vs : List Val) (h : MH) (hk : hasK (ky (x * P + R) P) ks = false) (hv : ks.length = vs.length) (hF : F.length = ks.length) (hlen : F.length < 1000)
    (s1 : Lt 1000 P) (hR0 : 0 < R) (hR : R < P) (hx : Sm x) (ha : Sm (x * P + R)) (g : gc P R = 1) :
    evS (T 58) ckP l1_terms_of (e58 (x * P + R) P F ks vs) h = .ok (.nx (e58 P R (F ++ [.int x]) (ks ++ [ky (x * P + R) P]) (vs ++ [.int F.length]))) h := by
  have f := t_less_floor (n := 58) (by omega) x P R h (s1.mono (by omega)) (by omega) hR hx ha g
  have i := inv_ok (n := 58) (by omega) R P h (s1.mono (by omega)) hR0 hR g s1
  have hc := hasK_ck (x * P + R) P
  have z := eqo_zz R 0
  have R0 : ¬ R = 0 := by omega
  have q : ¬ (F.length : Int) = 2000 := by omega
  have q1 : ks.length < MP.sz := by unfold MP.sz; omega
  have pt := putV58 (x * P + R) P (.int F.length) ks vs hk hv q1
  have q2 : F.length < 16777216 := by omega
  simp [-Res.bind, -List.map_map, -MP.opt, -Res.noexc, DR.def_, ev_var, ev_con, ev_glob, ev_bin, ev_neg, negR_int, ev_cmp, ev_chain, ev_isN, ev_notN, ev_band, ev_bor, ev_bnot, ev_ife, ev_tup, ev_lst, ev_newObj, ev_sub, ev_slice, ev_rev, ev_call, ev_blt, ev_meth, ev_isinst, ev_lrg, lrgR, ev_lrg2, lrgR2, ev_lc, ev_skip, ev_seq, seqR_nx, seqR_rt, seqR_bk, seqR_ct, ev_expr, ev_asg, ev_par, unpR, ev_unp, setIR, ev_setI, ev_setO, ev_app, extR, ev_ext, ev_ret, ev_if, ev_whl, ev_for, ev_brk, ev_cont, ev_frz, ev_kill, killR_nx, killR_rt, killR_bk, ev_never, endR_rt, endR_nx, evEs, evBs, evIt, evOp, evC, evR, evRs, bindR_ok, bindR_bad, bindR_exc, bind_ite, optR_some, optR_none, opt_ite, noexc_ok, startS, getB, getS, subV, subD, atI, ixN, setv, setvs, setAll, bindT, wipe, frz, ownS, ownL, truthV, cmpV, binV, isinstV, lenV, bltV, isNV, mthTy, optI, sz, l1_terms_of, keysOf, Val.keyOf, f, i, pt, hc, z, R0, q, q1, q2, eqo_int, slcV, cut, sIx]
end LawP
set_option maxHeartbeats 2000000
set_option autoImplicit false
namespace LawP
open MP
theorem last58 (z : Int) (F : List Val) (ks : List (List Ky)) (vs : List Val) (h : MH) (hk : hasK (ky z 1) ks = false) (hv : ks.length = vs.length) (hF : F.length = ks.length) (hlen : F.length < 1000) (hx : Sm z) :
    evS (T 58) ckP l1_terms_of (e58 z 1 F ks vs) h = .ok (.rt (.tup [.tup (F ++ [.int z]), .tup []])) h := by
  have f := t_less_floor (n := 58) (by omega) z 1 0 h Sm.one (by omega) (by omega) hx (by rw [Int.mul_one, Int.add_zero]; exact hx) (by simp [gc])
  rw [Int.mul_one, Int.add_zero] at f
  have z0 := eqo_zz 0 0
  have q : ¬ (F.length : Int) = 2000 := by omega
  have q1 : ks.length < MP.sz := by unfold MP.sz; omega
  have pt := putV58 z 1 (.int F.length) ks vs hk hv q1
  have q2 : F.length < 16777216 := by omega
  simp [-Res.bind, -List.map_map, -MP.opt, -Res.noexc, DR.def_, ev_var, ev_con, ev_glob, ev_bin, ev_neg, negR_int, ev_cmp, ev_chain, ev_isN, ev_notN, ev_band, ev_bor, ev_bnot, ev_ife, ev_tup, ev_lst, ev_newObj, ev_sub, ev_slice, ev_rev, ev_call, ev_blt, ev_meth, ev_isinst, ev_lrg, lrgR, ev_lrg2, lrgR2, ev_lc, ev_skip, ev_seq, seqR_nx, seqR_rt, seqR_bk, seqR_ct, ev_expr, ev_asg, ev_par, unpR, ev_unp, setIR, ev_setI, ev_setO, ev_app, extR, ev_ext, ev_ret, ev_if, ev_whl, ev_for, ev_brk, ev_cont, ev_frz, ev_kill, killR_nx, killR_rt, killR_bk, ev_never, endR_rt, endR_nx, evEs, evBs, evIt, evOp, evC, evR, evRs, bindR_ok, bindR_bad, bindR_exc, bind_ite, optR_some, optR_none, opt_ite, noexc_ok, startS, getB, getS, subV, subD, atI, ixN, setv, setvs, setAll, bindT, wipe, frz, ownS, ownL, truthV, cmpV, binV, isinstV, lenV, bltV, isNV, mthTy, optI, sz, l1_terms_of, f, pt, z0, q, q1, q2, eqo_int, slcV, cut, sIx]
theorem loop58 (h : MH) (z : Int) (hz : 2 ≤ z ∧ Lt 4 z) : ∀ (l : List Int) (F : List Val) (ks : List (List Ky)) (vs : List Val), (∀ x ∈ l, 1 ≤ x ∧ Lt 4 x) → F.length + l.length < 100 → ks.length = vs.length → F.length = ks.length → (∀ k ∈ ks, ∃ c d, k = ky c d ∧ (trm (l ++ [z])).r < d) →
    ∃ n, loopW (cndB (T 58) c1_terms_of) (evS (T 58) ckP l1_terms_of) n (e58 (trm (l ++ [z])).p (trm (l ++ [z])).r F ks vs) h = .ok (.rt (.tup [.tup (F ++ (l ++ [z]).map .int), .tup []])) h
  | [], F, ks, vs, hl, hlen, hv, hF, hk => by
    rw [List.nil_append, trm_one] at hk ⊢
    have hk' := hasK_low z 1 ks hk
    refine ⟨1, ?_⟩
    have c := cnd58 z 1 F ks vs h hk'
    have b := last58 z F ks vs h hk' hv hF (by simp at hlen; omega) (hz.2.mono (by omega))
    show loopW _ _ 1 (e58 z 1 F ks vs) h = _
    rw [loopW, c, bindR_ok, if_pos rfl, b]; rfl
  | x :: l, F, ks, vs, hl, hlen, hv, hF, hk => by
    rw [List.cons_append] at hk ⊢
    have big := trm_big l z (fun y hy => (hl y (by simp [hy])).1) hz.1
    have lt := Lt.trm (l ++ [z]) (fun y hy => by
      rcases List.mem_append.mp hy with hy | hy
      · exact (hl y (by simp [hy])).2
      · rw [List.mem_singleton] at hy; rw [hy]; exact hz.2)
    have hx := hl x (by simp)
    simp only [List.length_cons] at hlen
    have len : (l ++ [z]).length = l.length + 1 := by simp
    rw [len] at lt
    have g := trm_gc (l ++ [z])
    rw [trm_p, trm_r] at *
    have hk' := hasK_low (x * (trm (l ++ [z])).p + (trm (l ++ [z])).r) (trm (l ++ [z])).p ks hk
    have s1 : Lt 1000 (trm (l ++ [z])).p := lt.1.mono (by omega)
    have sa : Sm (x * (trm (l ++ [z])).p + (trm (l ++ [z])).r) := by
      have := lt_cf lt.1 lt.2 hx.2
      rw [Int.mul_comm]; exact this.mono (by omega)
    have c := cnd58 _ _ F ks vs h hk'
    have b := body58 x _ _ F ks vs h hk' hv hF (by omega) s1 (by omega) big.2 (hx.2.mono (by omega)) sa g
    obtain ⟨n, ih⟩ := loop58 h z hz l (F ++ [.int x]) (ks ++ [ky (x * (trm (l ++ [z])).p + (trm (l ++ [z])).r) (trm (l ++ [z])).p]) (vs ++ [.int F.length]) (fun y hy => hl y (by simp [hy])) (by simp; omega) (by simp [hv]) (by simp [hF]) (fun k hk2 => by
      rcases List.mem_append.mp hk2 with hk2 | hk2
      · obtain ⟨c, d, e, lo⟩ := hk k hk2
        exact ⟨c, d, e, by omega⟩
      · rw [List.mem_singleton] at hk2
        exact ⟨_, _, hk2, big.2⟩)
    refine ⟨n + 1, ?_⟩
    rw [loopW, c, bindR_ok, if_pos rfl, b, bindR_ok]
    show loopW _ _ n _ _ = _
    rw [ih]; simp
end LawP
set_option maxHeartbeats 2000000
set_option autoImplicit false
namespace LawP
open MP
theorem t_terms_of {n : Nat} (hn : 58 < n) (l : List Int) (z : Int) (hl : ∀ x ∈ l, 1 ≤ x ∧ Lt 4 x) (hz : 2 ≤ z ∧ Lt 4 z) (hlen : l.length < 100) (h : MH) : T n 58 [rn (trm (l ++ [z])).p (trm (l ++ [z])).r] h = .ok (.tup [tl (l ++ [z]), .tup []]) h := by
  obtain ⟨k, e⟩ := loop58 h z hz l [] [] [] hl (by simpa using hlen) rfl rfl (by simp)
  have wh := while_of e (by simp)
  rw [List.nil_append] at wh
  generalize l ++ [z] = L at *
  rw [T_run hn rfl rfl]
  simp [-Res.bind, -List.map_map, -MP.opt, -Res.noexc, DR.def_, ev_var, ev_con, ev_glob, ev_bin, ev_neg, negR_int, ev_cmp, ev_chain, ev_isN, ev_notN, ev_band, ev_bor, ev_bnot, ev_ife, ev_tup, ev_lst, ev_newObj, ev_sub, ev_slice, ev_rev, ev_call, ev_blt, ev_meth, ev_isinst, ev_lrg, lrgR, ev_lrg2, lrgR2, ev_lc, ev_skip, ev_seq, seqR_nx, seqR_rt, seqR_bk, seqR_ct, ev_expr, ev_asg, ev_par, unpR, ev_unp, setIR, ev_setI, ev_setO, ev_app, extR, ev_ext, ev_ret, ev_if, ev_whl, ev_for, ev_brk, ev_cont, ev_frz, ev_kill, killR_nx, killR_rt, killR_bk, ev_never, endR_rt, endR_nx, evEs, evBs, evIt, evOp, evC, evR, evRs, bindR_ok, bindR_bad, bindR_exc, bind_ite, optR_some, optR_none, opt_ite, noexc_ok, startS, getB, getS, subV, subD, atI, ixN, setv, setvs, setAll, bindT, wipe, frz, ownS, ownL, truthV, cmpV, binV, isinstV, lenV, bltV, isNV, mthTy, optI, sz, r_terms_of, d_terms_of, wh]
theorem t_terms {n : Nat} (hn : 59 < n) (l : List Int) (z : Int) (hl : ∀ x ∈ l, 1 ≤ x ∧ Lt 4 x) (hz : 2 ≤ z ∧ Lt 4 z) (hlen : l.length < 100) (h : MH) : T n 59 [rn (trm (l ++ [z])).p (trm (l ++ [z])).r] h = .ok (.tup [tl (l ++ [z]), .tup []]) h := by
  have a := t_terms_of (n := 59) (by omega) l z hl hz hlen h
  have big := trm_big l z (fun x hx => (hl x hx).1) hz.1
  have c := t_check_number (n := 59) (by omega) (trm (l ++ [z])).p (trm (l ++ [z])).r h big.1 (trm_gc _)
  generalize l ++ [z] = L at *
  rw [T_run hn rfl rfl]
  simp [-Res.bind, -List.map_map, -MP.opt, -Res.noexc, DR.def_, ev_var, ev_con, ev_glob, ev_bin, ev_neg, negR_int, ev_cmp, ev_chain, ev_isN, ev_notN, ev_band, ev_bor, ev_bnot, ev_ife, ev_tup, ev_lst, ev_newObj, ev_sub, ev_slice, ev_rev, ev_call, ev_blt, ev_meth, ev_isinst, ev_lrg, lrgR, ev_lrg2, lrgR2, ev_lc, ev_skip, ev_seq, seqR_nx, seqR_rt, seqR_bk, seqR_ct, ev_expr, ev_asg, ev_par, unpR, ev_unp, setIR, ev_setI, ev_setO, ev_app, extR, ev_ext, ev_ret, ev_if, ev_whl, ev_for, ev_brk, ev_cont, ev_frz, ev_kill, killR_nx, killR_rt, killR_bk, ev_never, endR_rt, endR_nx, evEs, evBs, evIt, evOp, evC, evR, evRs, bindR_ok, bindR_bad, bindR_exc, bind_ite, optR_some, optR_none, opt_ite, noexc_ok, startS, getB, getS, subV, subD, atI, ixN, setv, setvs, setAll, bindT, wipe, frz, ownS, ownL, truthV, cmpV, binV, isinstV, lenV, bltV, isNV, mthTy, optI, sz, r_terms, d_terms, a, c]
end LawP
set_option maxHeartbeats 2000000
set_option autoImplicit false
namespace LawP
open MP
abbrev eTerm : E := .blt .toint (.cons (.bin .add (.con (.int 1)) (.call 41 (.cons (.var 0) (.cons (.lst (.cons (.con (.int 0)) (.cons (.con (.int 0)) (.cons (.con (.int 1)) (.cons (.call 40 (.cons (.var 0) (.cons (.con (.int 9)) .nil))) .nil))))) .nil)))) .nil)
abbrev eRow : E := .blt .tuple (.cons (.lc [6] (.name 6) (.rng1 (.bin .add (.con (.int 1)) (.call 40 (.cons (.var 0) (.cons (.con (.int 12)) .nil))))) .no eTerm) .nil)
theorem draw_term {h : MH} {k m : Nat} (p : Pot h k m) (hm : m + 10 < 2 ^ 20) (x : Val) : ∃ v h', turnLc (T 60) [6] (.name 6) .no eTerm [.v (.obj k), .e, .e, .e, .e, .e, .e] x h = .ok (some v) h' ∧ (∃ i : Int, v = .int i ∧ 1 ≤ i ∧ i ≤ 9) ∧ Pot h' k (m + 2) := by
  obtain ⟨d, h1, e1, d0, d1, p1⟩ := t_take (n := 60) (by omega) p (by omega) 9 (by omega) (by unfold Lt; decide)
  obtain ⟨v, h2, e2, hv, p2⟩ := t_of (n := 60) (by omega) p1 (by omega) [.int 0, .int 0, .int 1, .int d] (by simp) (by simp)
  have : ∃ i : Int, v = .int i ∧ 0 ≤ i ∧ i ≤ 8 := by
    simp at hv
    rcases hv with rfl | rfl | rfl
    · exact ⟨0, rfl, by omega, by omega⟩
    · exact ⟨1, rfl, by omega, by omega⟩
    · exact ⟨d, rfl, by omega, by omega⟩
  obtain ⟨i, rfl, i0, i1⟩ := this
  refine ⟨.int (1 + i), h2, ?_, ⟨1 + i, rfl, by omega, by omega⟩, p2⟩
  simp [-Res.bind, -List.map_map, -MP.opt, -Res.noexc, DR.def_, ev_var, ev_con, ev_glob, ev_bin, ev_neg, negR_int, ev_cmp, ev_chain, ev_isN, ev_notN, ev_band, ev_bor, ev_bnot, ev_ife, ev_tup, ev_lst, ev_newObj, ev_sub, ev_slice, ev_rev, ev_call, ev_blt, ev_meth, ev_isinst, ev_lrg, lrgR, ev_lrg2, lrgR2, ev_lc, ev_skip, ev_seq, seqR_nx, seqR_rt, seqR_bk, seqR_ct, ev_expr, ev_asg, ev_par, unpR, ev_unp, setIR, ev_setI, ev_setO, ev_app, extR, ev_ext, ev_ret, ev_if, ev_whl, ev_for, ev_brk, ev_cont, ev_frz, ev_kill, killR_nx, killR_rt, killR_bk, ev_never, endR_rt, endR_nx, evEs, evBs, evIt, evOp, evC, evR, evRs, bindR_ok, bindR_bad, bindR_exc, bind_ite, optR_some, optR_none, opt_ite, noexc_ok, startS, getB, getS, subV, subD, atI, ixN, setv, setvs, setAll, bindT, wipe, frz, ownS, ownL, truthV, cmpV, binV, isinstV, lenV, bltV, isNV, mthTy, optI, sz, turnLc, e1, e2]
theorem list_ti : ∀ vs : List Val, (∀ v ∈ vs, ∃ i : Int, v = .int i ∧ 1 ≤ i ∧ i ≤ 9) → ∃ t : List Int, vs = t.map Val.int ∧ t.length = vs.length ∧ ∀ x ∈ t, 1 ≤ x ∧ x ≤ 9
  | [], _ => ⟨[], rfl, rfl, by simp⟩
  | v :: vs, h => by
    obtain ⟨i, rfl, hi⟩ := h v List.mem_cons_self
    obtain ⟨t, rfl, l, ht⟩ := list_ti vs fun w hw => h w (List.mem_cons_of_mem _ hw)
    refine ⟨i :: t, rfl, by simp, fun x hx => ?_⟩
    rcases List.mem_cons.mp hx with rfl | hx
    · exact hi
    · exact ht x hx
theorem draw_row {h : MH} {k m : Nat} (p : Pot h k m) (hm : m + 100 < 2 ^ 20) : ∃ (t : List Int) (h' : MH), evE (T 60) false eRow [.v (.obj k), .e, .e, .e, .e, .e, .e] h = .ok (tl t) h' ∧ t ≠ [] ∧ t.length ≤ 12 ∧ (∀ x ∈ t, 1 ≤ x ∧ x ≤ 9) ∧ Pot h' k (m + 25) := by
  obtain ⟨d, h1, e1, d0, d1, p1⟩ := t_take (n := 60) (by omega) p (by omega) 12 (by omega) (by unfold Lt; decide)
  obtain ⟨vs, h2, e2, l2, q2, p2⟩ := mapR_draw (P := fun h n => Pot h k n) (Q := fun v => ∃ i : Int, v = .int i ∧ 1 ≤ i ∧ i ≤ 9) (N := 2 ^ 20 - 20) (c := 2) (fun x h n hn p => draw_term p (by omega) x) (rngL 0 (1 + d).toNat) h1 (m + 1) p1 (by rw [rngL_len]; omega) (by omega)
  obtain ⟨t, rfl, lt, ht⟩ := list_ti vs q2
  rw [l2, rngL_len] at lt
  rw [rngL_len] at p2
  have rg : rgOk 0 (1 + d) = true := by
    simp only [rgOk, Bool.and_eq_true, decide_eq_true_eq]
    omega
  refine ⟨t, h2, ?_, fun c => by rw [c] at lt; simp at lt; omega, by omega, ht, p2.more (by omega)⟩
  have hz : 1 + d ≤ 16777216 := by omega
  simp [-Res.bind, -List.map_map, -MP.opt, -Res.noexc, DR.def_, ev_var, ev_con, ev_glob, ev_bin, ev_neg, negR_int, ev_cmp, ev_chain, ev_isN, ev_notN, ev_band, ev_bor, ev_bnot, ev_ife, ev_tup, ev_lst, ev_newObj, ev_sub, ev_slice, ev_rev, ev_call, ev_blt, ev_meth, ev_isinst, ev_lrg, lrgR, ev_lrg2, lrgR2, ev_lc, ev_skip, ev_seq, seqR_nx, seqR_rt, seqR_bk, seqR_ct, ev_expr, ev_asg, ev_par, unpR, ev_unp, setIR, ev_setI, ev_setO, ev_app, extR, ev_ext, ev_ret, ev_if, ev_whl, ev_for, ev_brk, ev_cont, ev_frz, ev_kill, killR_nx, killR_rt, killR_bk, ev_never, endR_rt, endR_nx, evEs, evBs, evIt, evOp, evC, evR, evRs, bindR_ok, bindR_bad, bindR_exc, bind_ite, optR_some, optR_none, opt_ite, noexc_ok, startS, getB, getS, subV, subD, atI, ixN, setv, setvs, setAll, bindT, wipe, frz, ownS, ownL, truthV, cmpV, binV, isinstV, lenV, bltV, isNV, mthTy, optI, sz, e1, rg, e2, hz]
end LawP
set_option maxHeartbeats 2000000
set_option autoImplicit false
namespace LawP
open MP
abbrev eBack : E := .ife (.cmp .gt (.sub (.var 1) (.con (.int 0))) (.con (.int 1))) (.rev (.var 1)) (.ife (.cmp .gt (.blt .len (.cons (.var 1) .nil)) (.con (.int 1))) (.bin .add (.sliceE (.rev (.var 1)) .no (.yes (.neg (.con (.int 2))))) (.tup (.cons (.bin .add (.sub (.rev (.var 1)) (.neg (.con (.int 2)))) (.con (.int 1))) .nil))) (.var 1))
theorem cut_m1 (A : List Val) (y : Val) : cut (A ++ [y]) none (some (-1)) = A := by
  unfold cut sIx
  simp
  rw [show (-1 + ((A.length : Int) + 1)).toNat = A.length by omega, List.take_left]
theorem cut_m2 (A : List Val) (y w : Val) : cut (A ++ [y, w]) none (some (-2)) = A := by
  unfold cut sIx
  simp
  rw [show (-2 + ((A.length : Int) + 2)).toNat = A.length by omega, List.take_left]
theorem back_rev (x : Int) (l : List Int) (h : MH) (hx : 1 < x) (hl : l.length ≤ 100) : evE (T 60) false eBack [.e, .v (tl (x :: l)), .e, .e, .e, .e, .e] h = .ok (tl (x :: l).reverse) h := by
  simp [-Res.bind, -List.map_map, -MP.opt, -Res.noexc, DR.def_, ev_var, ev_con, ev_glob, ev_bin, ev_neg, negR_int, ev_cmp, ev_chain, ev_isN, ev_notN, ev_band, ev_bor, ev_bnot, ev_ife, ev_tup, ev_lst, ev_newObj, ev_sub, ev_slice, ev_rev, ev_call, ev_blt, ev_meth, ev_isinst, ev_lrg, lrgR, ev_lrg2, lrgR2, ev_lc, ev_skip, ev_seq, seqR_nx, seqR_rt, seqR_bk, seqR_ct, ev_expr, ev_asg, ev_par, unpR, ev_unp, setIR, ev_setI, ev_setO, ev_app, extR, ev_ext, ev_ret, ev_if, ev_whl, ev_for, ev_brk, ev_cont, ev_frz, ev_kill, killR_nx, killR_rt, killR_bk, ev_never, endR_rt, endR_nx, evEs, evBs, evIt, evOp, evC, evR, evRs, bindR_ok, bindR_bad, bindR_exc, bind_ite, optR_some, optR_none, opt_ite, noexc_ok, startS, getB, getS, subV, subD, atI, ixN, setv, setvs, setAll, bindT, wipe, frz, ownS, ownL, truthV, cmpV, binV, isinstV, lenV, bltV, isNV, mthTy, optI, sz, hx, revV]
theorem back_one (c : Int) (l : List Int) (h : MH) (hl : l.length ≤ 100) : evE (T 60) false eBack [.e, .v (tl (1 :: c :: l)), .e, .e, .e, .e, .e] h = .ok (tl (l.reverse ++ [c + 1])) h := by
  have k := cut_m2 (l.reverse.map Val.int) (.int c) (.int 1)
  have p1 : (0 : Int) < l.length + 1 + 1 := by omega
  have p2 : (1 : Int) < l.length + 1 + 1 := by omega
  have p3 : (2 : Int) ≤ l.length + 2 := by omega
  have p4 : (-2 + ((l.length : Int) + 2)).toNat = l.length := by omega
  have p5 : ((l.map Val.int).reverse ++ [Val.int c, Val.int 1])[l.length]? = some (.int c) := by simp [List.getElem?_append_right]
  have p6 : l.length + 1 ≤ 16777216 := by omega
  simp only [List.map_reverse] at k
  simp [-Res.bind, -List.map_map, -MP.opt, -Res.noexc, DR.def_, ev_var, ev_con, ev_glob, ev_bin, ev_neg, negR_int, ev_cmp, ev_chain, ev_isN, ev_notN, ev_band, ev_bor, ev_bnot, ev_ife, ev_tup, ev_lst, ev_newObj, ev_sub, ev_slice, ev_rev, ev_call, ev_blt, ev_meth, ev_isinst, ev_lrg, lrgR, ev_lrg2, lrgR2, ev_lc, ev_skip, ev_seq, seqR_nx, seqR_rt, seqR_bk, seqR_ct, ev_expr, ev_asg, ev_par, unpR, ev_unp, setIR, ev_setI, ev_setO, ev_app, extR, ev_ext, ev_ret, ev_if, ev_whl, ev_for, ev_brk, ev_cont, ev_frz, ev_kill, killR_nx, killR_rt, killR_bk, ev_never, endR_rt, endR_nx, evEs, evBs, evIt, evOp, evC, evR, evRs, bindR_ok, bindR_bad, bindR_exc, bind_ite, optR_some, optR_none, opt_ite, noexc_ok, startS, getB, getS, subV, subD, atI, ixN, setv, setvs, setAll, bindT, wipe, frz, ownS, ownL, truthV, cmpV, binV, isinstV, lenV, bltV, isNV, mthTy, optI, sz, slcV, k, revV, p1, p2, p3, p4, p5, p6]
end LawP
set_option maxHeartbeats 2000000
set_option autoImplicit false
namespace LawP
open MP
theorem rows_back (l : List Int) (z : Int) (hl : ∀ x ∈ l, 1 ≤ x ∧ x ≤ 9) (hz : 2 ≤ z ∧ z ≤ 10) (hlen : l.length ≤ 11) (h : MH) :
    ∃ (m : List Int) (w : Int), evE (T 60) false eBack [.e, .v (tl (l ++ [z])), .e, .e, .e, .e, .e] h = .ok (tl (m ++ [w])) h ∧ (∀ x ∈ m, 1 ≤ x ∧ x ≤ 10) ∧ (2 ≤ w ∧ w ≤ 11) ∧ m.length ≤ 11 ∧
      (trm (m ++ [w])).p = (trm (l ++ [z])).p ∧ (trm (m ++ [w])).r = (trm (l ++ [z])).q := by
  have rv : ∀ L : List Int, (trm L.reverse).p = (trm L).p ∧ (trm L.reverse).r = (trm L).q := fun L => by rw [trm_rev]; exact ⟨rfl, rfl⟩
  cases l with
  | nil =>
    refine ⟨[], z, ?_, by simp, by omega, by simp, ?_⟩
    · exact back_rev z [] h (by omega) (by simp)
    · exact rv [z]
  | cons x l =>
    have hx := hl x (by simp)
    simp only [List.length_cons] at hlen
    by_cases c : 1 < x
    · refine ⟨(l ++ [z]).reverse, x, ?_, ?_, by omega, by simp; omega, ?_⟩
      · have := back_rev x (l ++ [z]) h c (by simp; omega)
        rw [List.reverse_cons] at this
        exact this
      · intro y hy
        rw [List.mem_reverse, List.mem_append, List.mem_singleton] at hy
        rcases hy with hy | hy
        · have := hl y (by simp [hy]); omega
        · omega
      · have := rv (x :: (l ++ [z]))
        rw [List.reverse_cons] at this
        exact this
    · have x1 : x = 1 := by omega
      subst x1
      have key : ∀ (c : Int) (k : List Int), l ++ [z] = c :: k → (1 ≤ c ∧ c ≤ 10) → (∀ y ∈ k, 1 ≤ y ∧ y ≤ 10) → k.length ≤ 11 → _ := fun c k e hc hk hkl => by
        refine (⟨k.reverse, c + 1, ?_, fun y hy => hk y (List.mem_reverse.mp hy), by omega, by simpa using hkl, ?_⟩ : ∃ (m : List Int) (w : Int), evE (T 60) false eBack [.e, .v (tl ((1 :: l) ++ [z])), .e, .e, .e, .e, .e] h = .ok (tl (m ++ [w])) h ∧ (∀ x ∈ m, 1 ≤ x ∧ x ≤ 10) ∧ (2 ≤ w ∧ w ≤ 11) ∧ m.length ≤ 11 ∧
      (trm (m ++ [w])).p = (trm ((1 :: l) ++ [z])).p ∧ (trm (m ++ [w])).r = (trm ((1 :: l) ++ [z])).q)
        · rw [List.cons_append, e]
          exact back_one c k h (by omega)
        · rw [List.cons_append, e]
          have a := rv (1 :: c :: k)
          rw [List.reverse_cons, List.reverse_cons, List.append_assoc] at a
          have b := trm_merge k.reverse c
          rw [← b.1, ← b.2]
          exact a
      cases l with
      | nil => exact key z [] rfl (by omega) (by simp) (by simp)
      | cons c l =>
        have hc := hl c (by simp)
        simp only [List.length_cons] at hlen
        exact key c (l ++ [z]) rfl (by omega) (fun y hy => by
          rw [List.mem_append, List.mem_singleton] at hy
          rcases hy with hy | hy
          · have := hl y (by simp [hy]); omega
          · omega) (by simp; omega)
end LawP
set_option maxHeartbeats 2000000
set_option autoImplicit false
namespace LawP
open MP
abbrev s60a : S := .kill [0] (.asg 1 (.e eRow))
abbrev s60b : S := .asg 1 (.e (.bin .add (.sliceE (.var 1) .no (.yes (.neg (.con (.int 1))))) (.tup (.cons (.bin .add (.sub (.var 1) (.neg (.con (.int 1)))) (.con (.int 1))) .nil))))
abbrev s60c : S := .asg 2 (.e eBack)
def r60 : S := match d__law_are_terms_right with
  | .seq _ (.seq _ (.seq _ r)) => r
  | _ => .skip
theorem d60 : d__law_are_terms_right = .seq s60a (.seq s60b (.seq s60c r60)) := rfl
theorem st60a {k : Nat} {t : List Int} {h h1 : MH} (e1 : evE (T 60) false eRow [.v (.obj k), .e, .e, .e, .e, .e, .e] h = .ok (tl t) h1) : evS (T 60) ckP s60a [.v (.obj k), .e, .e, .e, .e, .e, .e] h = .ok (.nx [.e, .v (tl t), .e, .e, .e, .e, .e]) h1 := by
  have f : evR (T 60) (.e eRow) [.v (.obj k), .e, .e, .e, .e, .e, .e] h = (evE (T 60) false eRow [.v (.obj k), .e, .e, .e, .e, .e, .e] h).bind fun v h => .ok (.v v) h := rfl
  rw [e1] at f
  rw [ev_kill, ev_asg, f]; rfl
theorem st60c {L B : List Int} {h1 : MH} (e2 : evE (T 60) false eBack [.e, .v (tl L), .e, .e, .e, .e, .e] h1 = .ok (tl B) h1) : evS (T 60) ckP s60c [.e, .v (tl L), .e, .e, .e, .e, .e] h1 = .ok (.nx [.e, .v (tl L), .v (tl B), .e, .e, .e, .e]) h1 := by
  have f : evR (T 60) (.e eBack) [.e, .v (tl L), .e, .e, .e, .e, .e] h1 = (evE (T 60) false eBack [.e, .v (tl L), .e, .e, .e, .e, .e] h1).bind fun v h => .ok (.v v) h := rfl
  rw [e2] at f
  rw [ev_asg, f]; rfl
theorem st60b (l : List Int) (y : Int) (h1 : MH) (hl : l.length ≤ 100) : evS (T 60) ckP s60b [.e, .v (tl (l ++ [y])), .e, .e, .e, .e, .e] h1 = .ok (.nx [.e, .v (tl (l ++ [y + 1])), .e, .e, .e, .e, .e]) h1 := by
  have ctm := cut_m1 (l.map Val.int) (.int y)
  have p1 : (1 : Int) ≤ l.length + 1 := by omega
  have p2 : (-1 + ((l.length : Int) + 1)).toNat = l.length := by omega
  have p3 : (l.map Val.int ++ [Val.int y])[l.length]? = some (.int y) := by simp [List.getElem?_append_right]
  have p4 : l.length + 1 ≤ 16777216 := by omega
  simp [-Res.bind, -List.map_map, -MP.opt, -Res.noexc, DR.def_, ev_var, ev_con, ev_glob, ev_bin, ev_neg, negR_int, ev_cmp, ev_chain, ev_isN, ev_notN, ev_band, ev_bor, ev_bnot, ev_ife, ev_tup, ev_lst, ev_newObj, ev_sub, ev_slice, ev_rev, ev_call, ev_blt, ev_meth, ev_isinst, ev_lrg, lrgR, ev_lrg2, lrgR2, ev_lc, ev_skip, ev_seq, seqR_nx, seqR_rt, seqR_bk, seqR_ct, ev_expr, ev_asg, ev_par, unpR, ev_unp, setIR, ev_setI, ev_setO, ev_app, extR, ev_ext, ev_ret, ev_if, ev_whl, ev_for, ev_brk, ev_cont, ev_frz, ev_kill, killR_nx, killR_rt, killR_bk, ev_never, endR_rt, endR_nx, evEs, evBs, evIt, evOp, evC, evR, evRs, bindR_ok, bindR_bad, bindR_exc, bind_ite, optR_some, optR_none, opt_ite, noexc_ok, startS, getB, getS, subV, subD, atI, ixN, setv, setvs, setAll, bindT, wipe, frz, ownS, ownL, truthV, cmpV, binV, isinstV, lenV, bltV, isNV, mthTy, optI, sz, slcV, ctm, p1, p2, p3, p4]
theorem eqvs_ints : ∀ l : List Int, eqvs (l.map Val.int) (l.map Val.int) = some true
  | [] => by simp [eqvs]
  | x :: l => by simp [eqvs, eqv, eqvs_ints l]
theorem eqo_terms (l : List Int) : eqo (.tup [tl l, .tup []]) (.tup [tl l, .tup []]) = some true := by
  unfold eqo
  have p : purLes 58 (l.map Val.int) = true := pure_ints 58 l
  simp [pureLe, purLes, eqv, eqvs, p, eqvs_ints]
theorem t_terms_right {n : Nat} (hn : 60 < n) {h : MH} {k m : Nat} (p : Pot h k m) (hm : m + 100 < 2 ^ 20) : ∃ h', T n 60 [.obj k] h = .ok (.bl true) h' ∧ Pot h' k (m + 25) := by
  obtain ⟨t, h1, e1, t0, tlen, ht, p1⟩ := draw_row p hm
  obtain ⟨l, y, rfl⟩ : ∃ l y, t = l ++ [y] := ⟨t.dropLast, t.getLast t0, (List.dropLast_concat_getLast t0).symm⟩
  have hl : ∀ x ∈ l, 1 ≤ x ∧ x ≤ 9 := fun x hx => ht x (by simp [hx])
  have hy := ht y (by simp)
  have llen : l.length ≤ 11 := by simp at tlen; omega
  obtain ⟨b, w, e2, hb, hw, blen, bp, br⟩ := rows_back l (y + 1) hl (by omega) llen h1
  refine ⟨h1, ?_, p1⟩
  have L4 : ∀ x : Int, 1 ≤ x → x ≤ 11 → Lt 4 x := fun x h0 h1 => Lt.of (by omega) (by omega)
  have hl' : ∀ x ∈ l, 1 ≤ x ∧ Lt 4 x := fun x hx => ⟨(hl x hx).1, L4 x (hl x hx).1 (by have := hl x hx; omega)⟩
  have hb' : ∀ x ∈ b, 1 ≤ x ∧ Lt 4 x := fun x hx => ⟨(hb x hx).1, L4 x (hb x hx).1 (by have := hb x hx; omega)⟩
  have hz' : 2 ≤ y + 1 ∧ Lt 4 (y + 1) := ⟨by omega, L4 _ (by omega) (by omega)⟩
  have hw' : 2 ≤ w ∧ Lt 4 w := ⟨by omega, L4 _ (by omega) (by omega)⟩
  have n1 := t_number_by (n := 60) (by omega) l (y + 1) hl' hz' (by omega) h1
  have n2 := t_number_by (n := 60) (by omega) b w hb' hw' (by omega) h1
  have m1 := t_terms (n := 60) (by omega) l (y + 1) hl' hz' (by omega) h1
  have m2 := t_terms (n := 60) (by omega) b w hb' hw' (by omega) h1
  have g1 := trm_gc (l ++ [y + 1])
  have g2 := trm_gc (b ++ [w])
  have big1 := trm_big l (y + 1) (fun x hx => (hl x hx).1) hz'.1
  have big2 := trm_big b w (fun x hx => (hb x hx).1) hw'.1
  have dt := det_trm (l ++ [y + 1])
  have len : (l ++ [y + 1]).length = l.length + 1 := by simp
  have lt1 := Lt.trm (l ++ [y + 1]) (fun x hx => by
    rcases List.mem_append.mp hx with hx | hx
    · exact (hl' x hx).2
    · rw [List.mem_singleton] at hx; rw [hx]; exact hz'.2)
  rw [len] at dt lt1
  unfold M2.det at dt
  rw [← br] at dt
  rw [bp] at n2 m2 g2 big2
  have sb : Lt 61 (trm (b ++ [w])).r := by
    have := lt1.1
    have : Lt (5 * (l.length + 1) + 1) (trm (b ++ [w])).r := by unfold Lt at *; omega
    exact this.mono (by omega)
  have mo : mulOk (trm (l ++ [y + 1])).r (trm (b ++ [w])).r = true := (lt1.2.mono (by omega : _ ≤ 61)).mulOk sb (by omega)
  have a1 := t_as_fraction (n := 60) (by omega) _ _ h1 big1.1 g1
  have a2 := t_as_fraction (n := 60) (by omega) _ _ h1 big2.1 g2
  have a3 := t_as_number (n := 60) (by omega) _ _ h1 big1.1 g1
  have a4 := t_as_number (n := 60) (by omega) _ _ h1 big2.1 g2
  have q1 := eqo_terms (l ++ [y + 1])
  have q2 := eqo_terms (b ++ [w])
  have p0 : (trm (l ++ [y + 1])).p ≠ 0 := by omega
  have sB := st60b l y h1 (by omega)
  have sA := st60a e1
  have sC := st60c e2
  have md : (((trm (l ++ [y + 1])).r * (trm (b ++ [w])).r) + (if (l.length + 1) % 2 = 0 then 1 else -1)).fmod (trm (l ++ [y + 1])).p = 0 := by
    rw [← dt, Int.mul_comm (trm (b ++ [w])).r, show ∀ a b : Int, a + (b - a) = b from fun a b => by omega, Int.mul_fmod_right]
  generalize trm (l ++ [y + 1]) = P at *
  generalize trm (b ++ [w]) = Q at *
  have len' : ((l ++ [y + 1]).map Val.int).length = l.length + 1 := by simp
  generalize l ++ [y + 1] = L at *
  generalize b ++ [w] = B at *
  rw [T_run hn rfl rfl]
  show (evS (T 60) ckP d__law_are_terms_right [.v (.obj k), .e, .e, .e, .e, .e, .e] h).bind endR = _
  rw [d60, ev_seq, sA, bindR_ok, seqR_nx, ev_seq, sB, bindR_ok, seqR_nx, ev_seq, sC, bindR_ok, seqR_nx]
  simp [-Res.bind, -List.map_map, -MP.opt, -Res.noexc, DR.def_, ev_var, ev_con, ev_glob, ev_bin, ev_neg, negR_int, ev_cmp, ev_chain, ev_isN, ev_notN, ev_band, ev_bor, ev_bnot, ev_ife, ev_tup, ev_lst, ev_newObj, ev_sub, ev_slice, ev_rev, ev_call, ev_blt, ev_meth, ev_isinst, ev_lrg, lrgR, ev_lrg2, lrgR2, ev_lc, ev_skip, ev_seq, seqR_nx, seqR_rt, seqR_bk, seqR_ct, ev_expr, ev_asg, ev_par, unpR, ev_unp, setIR, ev_setI, ev_setO, ev_app, extR, ev_ext, ev_ret, ev_if, ev_whl, ev_for, ev_brk, ev_cont, ev_frz, ev_kill, killR_nx, killR_rt, killR_bk, ev_never, endR_rt, endR_nx, evEs, evBs, evIt, evOp, evC, evR, evRs, bindR_ok, bindR_bad, bindR_exc, bind_ite, optR_some, optR_none, opt_ite, noexc_ok, startS, getB, getS, subV, subD, atI, ixN, setv, setvs, setAll, bindT, wipe, frz, ownS, ownL, truthV, cmpV, binV, isinstV, lenV, bltV, isNV, mthTy, optI, sz, r60, d__law_are_terms_right, n1, n2, m1, m2, a1, a2, a3, a4, q1, q2, mo, md, len', eqo_int, len]
  have fe : ((l.length : Int) + 1).fmod 2 = 0 ↔ (l.length + 1) % 2 = 0 := by
    rw [Int.fmod_eq_emod_of_nonneg _ (by omega)]; omega
  by_cases c : (l.length + 1) % 2 = 0
  · rw [if_pos (fe.mpr c), if_neg p0]
    rw [if_pos c] at md
    rw [md]; rfl
  · rw [if_neg (fun e => c (fe.mp e)), if_neg p0]
    rw [if_neg c] at md
    rw [md]; rfl
end LawP
set_option maxHeartbeats 2000000
set_option autoImplicit false
namespace LawP
open MP
def cpf : List Bool → List Bool → List Bool
  | a :: s, b :: t => if a = b then a :: cpf s t else []
  | _, _ => []
theorem cpf_len : ∀ s v : List Bool, (cpf s v).length ≤ s.length ∧ (cpf s v).length ≤ v.length
  | [], v => by simp [cpf]
  | a :: s, [] => by simp [cpf]
  | a :: s, b :: v => by
    have := cpf_len s v
    unfold cpf
    split <;> simp <;> omega
theorem cpf_take : ∀ s v : List Bool, s.take (cpf s v).length = cpf s v
  | [], v => by simp [cpf]
  | a :: s, [] => by simp [cpf]
  | a :: s, b :: v => by
    have := cpf_take s v
    unfold cpf
    split <;> simp [this]
theorem sg_inj {a b : Bool} : sg a = sg b ↔ a = b := by cases a <;> cases b <;> decide
abbrev e9 (t u : List Bool) (j : Nat) : Env := [.e, .e, .v (st t), .v (st u), .v (.int j)]
theorem at9 (p : List Bool) (a : Bool) (s : List Bool) : (enc (p ++ a :: s))[p.length]? = some (sg a) := by
  simp [enc]
theorem cnd9 (p : List Bool) (a b : Bool) (s v : List Bool) (h : MH) (hs : (p ++ a :: s).length ≤ 1000) (hv : (p ++ b :: v).length ≤ 1000) : cndB (T 9) c1_meet (e9 (p ++ a :: s) (p ++ b :: v) p.length) h = .ok (decide (a = b)) h := by
  have l1 : (enc (p ++ a :: s)).length ≤ 16777216 := by simp only [List.length_map]; omega
  have l2 : (enc (p ++ b :: v)).length ≤ 16777216 := by simp only [List.length_map]; omega
  have m1 := at9 p a s
  have m2 := at9 p b v
  have q1 : p.length < (enc (p ++ a :: s)).length := by simp
  have q2 : p.length < (enc (p ++ b :: v)).length := by simp
  unfold e9
  show cndB (T 9) c1_meet [.e, .e, .v (.str (enc (p ++ a :: s))), .v (.str (enc (p ++ b :: v))), .v (.int p.length)] h = _
  generalize enc (p ++ a :: s) = X at *
  generalize enc (p ++ b :: v) = Y at *
  have q3 : (p.length : Int) < (if Y.length < X.length then (Y.length : Int) else X.length) := by split <;> omega
  have x1 : X[p.length] = sg a := by rw [List.getElem?_eq_getElem q1] at m1; exact Option.some.inj m1
  have x2 : Y[p.length] = sg b := by rw [List.getElem?_eq_getElem q2] at m2; exact Option.some.inj m2
  have x3 : (sg a == sg b) = decide (a = b) := by cases a <;> cases b <;> rfl
  simp [-Res.bind, -List.map_map, -MP.opt, -Res.noexc, DR.def_, ev_var, ev_con, ev_glob, ev_bin, ev_neg, negR_int, ev_cmp, ev_chain, ev_isN, ev_notN, ev_band, ev_bor, ev_bnot, ev_ife, ev_tup, ev_lst, ev_newObj, ev_sub, ev_slice, ev_rev, ev_call, ev_blt, ev_meth, ev_isinst, ev_lrg, lrgR, ev_lrg2, lrgR2, ev_lc, ev_skip, ev_seq, seqR_nx, seqR_rt, seqR_bk, seqR_ct, ev_expr, ev_asg, ev_par, unpR, ev_unp, setIR, ev_setI, ev_setO, ev_app, extR, ev_ext, ev_ret, ev_if, ev_whl, ev_for, ev_brk, ev_cont, ev_frz, ev_kill, killR_nx, killR_rt, killR_bk, ev_never, endR_rt, endR_nx, evEs, evBs, evIt, evOp, evC, evR, evRs, bindR_ok, bindR_bad, bindR_exc, bind_ite, optR_some, optR_none, opt_ite, noexc_ok, startS, getB, getS, subV, subD, atI, ixN, setv, setvs, setAll, bindT, wipe, frz, ownS, ownL, truthV, cmpV, binV, isinstV, lenV, bltV, isNV, mthTy, optI, sz, cndB, c1_meet, l1, l2, q1, q2, q3, x1, x2, x3, eqo_str]
theorem end9 (p s v : List Bool) (h : MH) (hn : s = [] ∨ v = []) (hs : (p ++ s).length ≤ 1000) (hv : (p ++ v).length ≤ 1000) : cndB (T 9) c1_meet (e9 (p ++ s) (p ++ v) p.length) h = .ok false h := by
  have l1 : (enc (p ++ s)).length ≤ 16777216 := by simp only [List.length_map]; omega
  have l2 : (enc (p ++ v)).length ≤ 16777216 := by simp only [List.length_map]; omega
  have q1 : (enc (p ++ s)).length = p.length + s.length := by simp
  have q2 : (enc (p ++ v)).length = p.length + v.length := by simp
  have q0 : s.length = 0 ∨ v.length = 0 := hn.imp (fun e => by rw [e]; rfl) (fun e => by rw [e]; rfl)
  unfold e9
  show cndB (T 9) c1_meet [.e, .e, .v (.str (enc (p ++ s))), .v (.str (enc (p ++ v))), .v (.int p.length)] h = _
  generalize enc (p ++ s) = X at *
  generalize enc (p ++ v) = Y at *
  have q3 : ¬ (p.length : Int) < (if Y.length < X.length then (Y.length : Int) else X.length) := by split <;> omega
  simp [-Res.bind, -List.map_map, -MP.opt, -Res.noexc, DR.def_, ev_var, ev_con, ev_glob, ev_bin, ev_neg, negR_int, ev_cmp, ev_chain, ev_isN, ev_notN, ev_band, ev_bor, ev_bnot, ev_ife, ev_tup, ev_lst, ev_newObj, ev_sub, ev_slice, ev_rev, ev_call, ev_blt, ev_meth, ev_isinst, ev_lrg, lrgR, ev_lrg2, lrgR2, ev_lc, ev_skip, ev_seq, seqR_nx, seqR_rt, seqR_bk, seqR_ct, ev_expr, ev_asg, ev_par, unpR, ev_unp, setIR, ev_setI, ev_setO, ev_app, extR, ev_ext, ev_ret, ev_if, ev_whl, ev_for, ev_brk, ev_cont, ev_frz, ev_kill, killR_nx, killR_rt, killR_bk, ev_never, endR_rt, endR_nx, evEs, evBs, evIt, evOp, evC, evR, evRs, bindR_ok, bindR_bad, bindR_exc, bind_ite, optR_some, optR_none, opt_ite, noexc_ok, startS, getB, getS, subV, subD, atI, ixN, setv, setvs, setAll, bindT, wipe, frz, ownS, ownL, truthV, cmpV, binV, isinstV, lenV, bltV, isNV, mthTy, optI, sz, cndB, c1_meet, l1, l2, q3]
theorem loop9 (h : MH) : ∀ (s v p : List Bool), (p ++ s).length ≤ 1000 → (p ++ v).length ≤ 1000 → ∃ n, loopW (cndB (T 9) c1_meet) (evS (T 9) ckP l1_meet) n (e9 (p ++ s) (p ++ v) p.length) h = .ok (.nx (e9 (p ++ s) (p ++ v) (p.length + (cpf s v).length))) h
  | [], v, p, hs, hv => ⟨1, by rw [loopW, end9 p [] v h (.inl rfl) hs hv]; rfl⟩
  | a :: s, [], p, hs, hv => ⟨1, by rw [loopW, end9 p (a :: s) [] h (.inr rfl) hs hv]; rfl⟩
  | a :: s, b :: v, p, hs, hv => by
    have c := cnd9 p a b s v h hs hv
    by_cases hab : a = b
    · subst hab
      have ea : ∀ w : List Bool, p ++ a :: w = (p ++ [a]) ++ w := fun w => by simp
      obtain ⟨n, e⟩ := loop9 h s v (p ++ [a]) (by rw [← ea]; exact hs) (by rw [← ea]; exact hv)
      rw [← ea, ← ea] at e
      have el : (p ++ [a]).length = p.length + 1 := by simp
      rw [el] at e
      refine ⟨n + 1, ?_⟩
      have b1 : evS (T 9) ckP l1_meet (e9 (p ++ a :: s) (p ++ a :: v) p.length) h = .ok (.nx (e9 (p ++ a :: s) (p ++ a :: v) (p.length + 1))) h := by
        simp [-Res.bind, -List.map_map, -MP.opt, -Res.noexc, DR.def_, ev_var, ev_con, ev_glob, ev_bin, ev_neg, negR_int, ev_cmp, ev_chain, ev_isN, ev_notN, ev_band, ev_bor, ev_bnot, ev_ife, ev_tup, ev_lst, ev_newObj, ev_sub, ev_slice, ev_rev, ev_call, ev_blt, ev_meth, ev_isinst, ev_lrg, lrgR, ev_lrg2, lrgR2, ev_lc, ev_skip, ev_seq, seqR_nx, seqR_rt, seqR_bk, seqR_ct, ev_expr, ev_asg, ev_par, unpR, ev_unp, setIR, ev_setI, ev_setO, ev_app, extR, ev_ext, ev_ret, ev_if, ev_whl, ev_for, ev_brk, ev_cont, ev_frz, ev_kill, killR_nx, killR_rt, killR_bk, ev_never, endR_rt, endR_nx, evEs, evBs, evIt, evOp, evC, evR, evRs, bindR_ok, bindR_bad, bindR_exc, bind_ite, optR_some, optR_none, opt_ite, noexc_ok, startS, getB, getS, subV, subD, atI, ixN, setv, setvs, setAll, bindT, wipe, frz, ownS, ownL, truthV, cmpV, binV, isinstV, lenV, bltV, isNV, mthTy, optI, sz, l1_meet]
      rw [loopW, c, bindR_ok]
      simp only [decide_true, if_true]
      rw [b1, bindR_ok]
      simp only []
      rw [e]
      have : (cpf (a :: s) (a :: v)).length = (cpf s v).length + 1 := by simp [cpf]
      rw [this, show p.length + 1 + (cpf s v).length = p.length + ((cpf s v).length + 1) by omega]
    · refine ⟨1, ?_⟩
      rw [loopW, c, decide_eq_false hab]
      have : cpf (a :: s) (b :: v) = [] := by simp [cpf, hab]
      rw [this]; rfl
theorem cut_to {α : Type} (l : List α) (k : Nat) (hk : k ≤ l.length) : cut l none (some (k : Int)) = l.take k := by
  have k0 : ¬ (k : Int) < 0 := by omega
  unfold cut sIx
  simp [k0, Nat.min_eq_left hk]
theorem t_meet {n : Nat} (hn : 9 < n) (t u : List Bool) (ht : t.length ≤ 1000) (hu : u.length ≤ 1000) (h : MH) : T n 9 [fr (top t) (low t), fr (top u) (low u)] h = .ok (fr (top (cpf t u)) (low (cpf t u))) h := by
  obtain ⟨k, e⟩ := loop9 h t u [] (by simpa using ht) (by simpa using hu)
  have wh := while_of e (by simp)
  rw [List.nil_append, List.nil_append, List.length_nil, Nat.zero_add] at wh
  have cl := cpf_len t u
  have ct : cut (enc t) none (some ((cpf t u).length : Int)) = enc (cpf t u) := by
    rw [cut_to _ _ (by simp; omega), ← List.map_take, cpf_take]
  have hz : t.length ≤ 16777216 := by omega
  have f := t_fraction_at (n := 9) (by omega) (cpf t u) (by omega) h
  have c1 := t_check_fraction (n := 9) (by omega) (top t) (low t) h (low_pos t) (gcop t)
  have c2 := t_check_fraction (n := 9) (by omega) (top u) (low u) h (low_pos u) (gcop u)
  have c3 := t_check_above (n := 9) (by omega) (top t) (low t) h (top_pos t) (low_pos t) (gcop t)
  have c4 := t_check_above (n := 9) (by omega) (top u) (low u) h (top_pos u) (low_pos u) (gcop u)
  have r1 := t_road_of (n := 9) (by omega) t (by omega) h
  have r2 := t_road_of (n := 9) (by omega) u (by omega) h
  rw [T_run hn rfl rfl]
  unfold e9 at wh
  rw [show ((0 : Nat) : Int) = 0 from rfl] at wh
  simp [-Res.bind, -List.map_map, -MP.opt, -Res.noexc, DR.def_, ev_var, ev_con, ev_glob, ev_bin, ev_neg, negR_int, ev_cmp, ev_chain, ev_isN, ev_notN, ev_band, ev_bor, ev_bnot, ev_ife, ev_tup, ev_lst, ev_newObj, ev_sub, ev_slice, ev_rev, ev_call, ev_blt, ev_meth, ev_isinst, ev_lrg, lrgR, ev_lrg2, lrgR2, ev_lc, ev_skip, ev_seq, seqR_nx, seqR_rt, seqR_bk, seqR_ct, ev_expr, ev_asg, ev_par, unpR, ev_unp, setIR, ev_setI, ev_setO, ev_app, extR, ev_ext, ev_ret, ev_if, ev_whl, ev_for, ev_brk, ev_cont, ev_frz, ev_kill, killR_nx, killR_rt, killR_bk, ev_never, endR_rt, endR_nx, evEs, evBs, evIt, evOp, evC, evR, evRs, bindR_ok, bindR_bad, bindR_exc, bind_ite, optR_some, optR_none, opt_ite, noexc_ok, startS, getB, getS, subV, subD, atI, ixN, setv, setvs, setAll, bindT, wipe, frz, ownS, ownL, truthV, cmpV, binV, isinstV, lenV, bltV, isNV, mthTy, optI, sz, r_meet, d_meet, c1, c2, c3, c4, r1, r2, wh, slcV, ct, hz, f]
def rds : Nat → List (List Bool)
  | 0 => [[]]
  | n + 1 => (rds n).flatMap fun t => [t ++ [false], t ++ [true]]
theorem rds_len : ∀ n : Nat, ∀ t ∈ rds n, t.length = n
  | 0, t, h => by simp [rds] at h; rw [h]; rfl
  | n + 1, t, h => by
    simp only [rds, List.mem_flatMap] at h
    obtain ⟨u, hu, h⟩ := h
    have := rds_len n u hu
    simp at h
    rcases h with rfl | rfl <;> simp [this]
theorem rds_num : ∀ n : Nat, (rds n).length = 2 ^ n
  | 0 => rfl
  | n + 1 => by
    have : ∀ l : List (List Bool), (l.flatMap fun t => [t ++ [false], t ++ [true]]).length = 2 * l.length := fun l => by
      induction l with
      | nil => rfl
      | cons a l ih => rw [List.flatMap_cons, List.length_append, ih]; simp; omega
    rw [rds, this, rds_num n, Nat.pow_succ]; omega
end LawP
set_option maxHeartbeats 2000000
set_option autoImplicit false
namespace LawP
open MP
mutual
theorem eqv_self : ∀ (n : Nat) (v : Val), pureLe n v = true → eqv v v = some true
  | _, .non, _ => by simp [eqv]
  | _, .bl b, _ => by simp [eqv]
  | _, .int i, _ => by simp [eqv]
  | _, .str s, _ => by simp [eqv]
  | 0, .tup l, h => by simp [pureLe] at h
  | 0, .lst l, h => by simp [pureLe] at h
  | n + 1, .tup l, h => by rw [eqv]; exact eqvs_self n l (by rwa [pureLe] at h)
  | n + 1, .lst l, h => by rw [eqv]; exact eqvs_self n l (by rwa [pureLe] at h)
  | n, .dK _ _, h => by cases n <;> simp [pureLe] at h
  | n, .dT _ _, h => by cases n <;> simp [pureLe] at h
  | n, .obj _, h => by cases n <;> simp [pureLe] at h
theorem eqvs_self : ∀ (n : Nat) (l : List Val), purLes n l = true → eqvs l l = some true
  | _, [], _ => by simp [eqvs]
  | n, v :: l, h => by
    rw [purLes, Bool.and_eq_true] at h
    rw [eqvs, eqv_self n v h.1, eqvs_self n l h.2]; rfl
end
theorem eqo_self {v : Val} (h : pureLe 60 v = true) : eqo v v = some true := by
  unfold eqo
  rw [h]; exact eqv_self 60 v h
theorem purLes_map {α : Type} (n : Nat) (f : α → Val) (hf : ∀ a, pureLe n (f a) = true) : ∀ l : List α, purLes n (l.map f) = true
  | [] => by simp [purLes]
  | a :: l => by rw [List.map_cons, purLes, hf a, purLes_map n f hf l]; rfl
abbrev fe (t : List Bool) : Val := fr (top t) (low t)
abbrev lE (l : List (List Bool)) : Val := .lst (l.map fe)
abbrev lR (l : List (List Bool)) : Val := .lst (l.map st)
theorem eqo_lE (l : List (List Bool)) : eqo (lE l) (lE l) = some true := eqo_self (by rw [pureLe]; exact purLes_map 59 _ (fun a => by simp [pureLe, purLes]) l)
theorem eqo_lR (l : List (List Bool)) : eqo (lR l) (lR l) = some true := eqo_self (by rw [pureLe]; exact purLes_map 59 _ (fun a => by simp [pureLe]) l)
abbrev adj {α : Type} (l : List α) : List (α × α) := l.zip (l.drop 1)
theorem cut_1 {α : Type} (l : List α) : cut l (some 1) none = l.drop 1 := by
  unfold cut sIx
  cases l with
  | nil => rfl
  | cons x l => simp [List.take_of_length_le]
theorem zip2_map {α : Type} (f : α → Val) (l : List α) : List.zipWith (fun x y => Val.tup [x, y]) (l.map f) (cut (l.map f) (some 1) none) = (adj l).map fun p => .tup [f p.1, f p.2] := by
  rw [cut_1, ← List.map_drop, adj]
  generalize l.drop 1 = m
  induction l generalizing m with
  | nil => rfl
  | cons a l ih => cases m with
    | nil => rfl
    | cons b m => simp [ih m]
theorem zip4_map {α : Type} (f g : α → Val) (l : List α) : zip4L (l.map f) (cut (l.map f) (some 1) none) (l.map g) (cut (l.map g) (some 1) none) = (adj l).map fun p => .tup [f p.1, f p.2, g p.1, g p.2] := by
  rw [cut_1, cut_1, ← List.map_drop, ← List.map_drop, adj]
  generalize l.drop 1 = m
  induction l generalizing m with
  | nil => rfl
  | cons a l ih => cases m with
    | nil => rfl
    | cons b m => simp [zip4L, ih m]
abbrev g14 (X0 X1 X2 : Sl) (F : List (List Bool)) : Env := [X0, X1, X2, .e, .e, .o (lR F), .e, .e, .e, .e, .e, .e, .e, .e, .e]
theorem body14a (X0 X1 X2 : Sl) (F : List (List Bool)) (t : List Bool) (h : MH) (hF : F.length ≤ 1000) (ht : t.length ≤ 100) : forB (T 14) ckP (.name 6) l3__law_are_all_right (st t) (g14 X0 X1 X2 F) h = .ok (.nx (g14 X0 X1 X2 (F ++ [t ++ [false], t ++ [true]]))) h := by
  have w1 : List.map sg t ++ [82] = List.map sg (t ++ [true]) := by simp [sg]
  have w2 : List.map sg t ++ [76] = List.map sg (t ++ [false]) := by simp [sg]
  have l1 : t.length + 1 ≤ 16777216 := by omega
  have l2 : F.length ≤ 16777214 := by omega
  simp [-Res.bind, -List.map_map, -MP.opt, -Res.noexc, DR.def_, ev_var, ev_con, ev_glob, ev_bin, ev_neg, negR_int, ev_cmp, ev_chain, ev_isN, ev_notN, ev_band, ev_bor, ev_bnot, ev_ife, ev_tup, ev_lst, ev_newObj, ev_sub, ev_slice, ev_rev, ev_call, ev_blt, ev_meth, ev_isinst, ev_lrg, lrgR, ev_lrg2, lrgR2, ev_lc, ev_skip, ev_seq, seqR_nx, seqR_rt, seqR_bk, seqR_ct, ev_expr, ev_asg, ev_par, unpR, ev_unp, setIR, ev_setI, ev_setO, ev_app, extR, ev_ext, ev_ret, ev_if, ev_whl, ev_for, ev_brk, ev_cont, ev_frz, ev_kill, killR_nx, killR_rt, killR_bk, ev_never, endR_rt, endR_nx, evEs, evBs, evIt, evOp, evC, evR, evRs, bindR_ok, bindR_bad, bindR_exc, bind_ite, optR_some, optR_none, opt_ite, noexc_ok, startS, getB, getS, subV, subD, atI, ixN, setv, setvs, setAll, bindT, wipe, frz, ownS, ownL, truthV, cmpV, binV, isinstV, lenV, bltV, isNV, mthTy, optI, sz, forB, l3__law_are_all_right, l1, l2, sg]
theorem loop14a (X0 X1 X2 : Sl) (h : MH) : ∀ (l F : List (List Bool)), F.length + 2 * l.length ≤ 1000 → (∀ t ∈ l, t.length ≤ 100) →
    loopF (forB (T 14) ckP (.name 6) l3__law_are_all_right) (l.map st) (g14 X0 X1 X2 F) h = .ok (.nx (g14 X0 X1 X2 (F ++ l.flatMap fun t => [t ++ [false], t ++ [true]]))) h
  | [], F, _, _ => by simp [loopF]
  | t :: l, F, hF, ht => by
    simp only [List.length_cons] at hF
    rw [List.map_cons, loopF, body14a X0 X1 X2 F t h (by omega) (ht t (by simp)), bindR_ok]
    simp only []
    rw [loop14a X0 X1 X2 h l _ (by simp; omega) (fun u hu => ht u (by simp [hu])), List.flatMap_cons, List.append_assoc]
abbrev k14 (X0 : Sl) (F : List (List Bool)) : Env := [X0, .v (lR F), .e, .e, .e, .e, .e, .e, .e, .e, .e, .e, .e, .e, .e]
theorem body14b (X0 : Sl) (x : Val) (n : Nat) (hn : n ≤ 7) (h : MH) : forB (T 14) ckP (.name 2) l4__law_are_all_right x (k14 X0 (rds n)) h = .ok (.nx (k14 X0 (rds (n + 1)))) h := by
  have p2 : 2 ^ n ≤ 2 ^ 7 := Nat.pow_le_pow_right (by omega) hn
  have lp := loop14a X0 (.v (lR (rds n))) (.v x) h (rds n) [] (by rw [rds_num]; simp; omega) (fun t ht => by rw [rds_len n t ht]; omega)
  rw [List.nil_append] at lp
  have e : (rds n).flatMap (fun t => [t ++ [false], t ++ [true]]) = rds (n + 1) := rfl
  rw [e] at lp
  generalize rds (n + 1) = R' at *
  generalize rds n = R at *
  have lp' : loopF (forB (T 14) ckP (.name 6) l3__law_are_all_right) (R.map st) [X0, .v (.lst (R.map st)), .v x, .e, .e, .o (.lst []), .e, .e, .e, .e, .e, .e, .e, .e, .e] h = .ok (.nx [X0, .v (.lst (R.map st)), .v x, .e, .e, .o (.lst (R'.map st)), .e, .e, .e, .e, .e, .e, .e, .e, .e]) h := lp
  simp [-Res.bind, -List.map_map, -MP.opt, -Res.noexc, DR.def_, ev_var, ev_con, ev_glob, ev_bin, ev_neg, negR_int, ev_cmp, ev_chain, ev_isN, ev_notN, ev_band, ev_bor, ev_bnot, ev_ife, ev_tup, ev_lst, ev_newObj, ev_sub, ev_slice, ev_rev, ev_call, ev_blt, ev_meth, ev_isinst, ev_lrg, lrgR, ev_lrg2, lrgR2, ev_lc, ev_skip, ev_seq, seqR_nx, seqR_rt, seqR_bk, seqR_ct, ev_expr, ev_asg, ev_par, unpR, ev_unp, setIR, ev_setI, ev_setO, ev_app, extR, ev_ext, ev_ret, ev_if, ev_whl, ev_for, ev_brk, ev_cont, ev_frz, ev_kill, killR_nx, killR_rt, killR_bk, ev_never, endR_rt, endR_nx, evEs, evBs, evIt, evOp, evC, evR, evRs, bindR_ok, bindR_bad, bindR_exc, bind_ite, optR_some, optR_none, opt_ite, noexc_ok, startS, getB, getS, subV, subD, atI, ixN, setv, setvs, setAll, bindT, wipe, frz, ownS, ownL, truthV, cmpV, binV, isinstV, lenV, bltV, isNV, mthTy, optI, sz, forB, l4__law_are_all_right, lp']
theorem loop14b (X0 : Sl) (h : MH) : ∀ (xs : List Val) (n : Nat), n + xs.length ≤ 8 → loopF (forB (T 14) ckP (.name 2) l4__law_are_all_right) xs (k14 X0 (rds n)) h = .ok (.nx (k14 X0 (rds (n + xs.length)))) h
  | [], n, _ => rfl
  | x :: xs, n, hn => by
    simp only [List.length_cons] at hn
    rw [loopF, body14b X0 x n (by omega) h, bindR_ok]
    simp only []
    rw [loop14b X0 h xs (n + 1) (by omega), List.length_cons]
    rw [show n + 1 + xs.length = n + (xs.length + 1) by omega]
def sm2 : List (List Bool) → Int → Int → Option (Int × Int)
  | [], x, y => some (x, y)
  | t :: l, x, y => if mulOk x (top t * low t) && mulOk y (top t * low t) && divOk (eul 4000 (x * (top t * low t) + y) (y * (top t * low t))) then
      sm2 l ((x * (top t * low t) + y).fdiv (eul 4000 (x * (top t * low t) + y) (y * (top t * low t)))) ((y * (top t * low t)).fdiv (eul 4000 (x * (top t * low t) + y) (y * (top t * low t)))) else none
abbrev m14 (R E : Sl) (x y : Int) : Env := [.e, R, .e, E, .e, .e, .e, .v (.int x), .v (.int y), .e, .e, .e, .e, .e, .e]
theorem loop14c (R E : Sl) (h : MH) : ∀ (l : List (List Bool)) (x y a b : Int), (∀ t ∈ l, t.length ≤ 100) → sm2 l x y = some (a, b) → loopF (forB (T 14) ckP (.name 4) l2__law_are_all_right) (l.map fe) (m14 R E x y) h = .ok (.nx (m14 R E a b)) h
  | [], x, y, a, b, _, e => by
    simp only [sm2, Option.some.injEq, Prod.mk.injEq] at e
    rw [e.1, e.2]; rfl
  | t :: l, x, y, a, b, ht, e => by
    have lt := ht t (by simp)
    have m0 : mulOk (top t) (low t) = true := Sm.m (top_sm t (by omega)) (low_sm t (by omega))
    unfold sm2 at e
    split at e
    · rename_i hc
      simp only [Bool.and_eq_true] at hc
      obtain ⟨⟨m1, m2⟩, m3⟩ := hc
      rw [List.map_cons, loopF]
      have f := t_fraction (n := 14) (by omega) (x * (top t * low t) + y) (y * (top t * low t)) h m3
      have ih := loop14c R E h l _ _ a b (fun u hu => ht u (by simp [hu])) e
      generalize eul 4000 (x * (top t * low t) + y) (y * (top t * low t)) = G at *
      have b1 : forB (T 14) ckP (.name 4) l2__law_are_all_right (fe t) (m14 R E x y) h = .ok (.nx (m14 R E ((x * (top t * low t) + y).fdiv G) ((y * (top t * low t)).fdiv G))) h := by
        unfold fe
        generalize top t = p at *
        generalize low t = q at *
        simp [-Res.bind, -List.map_map, -MP.opt, -Res.noexc, DR.def_, ev_var, ev_con, ev_glob, ev_bin, ev_neg, negR_int, ev_cmp, ev_chain, ev_isN, ev_notN, ev_band, ev_bor, ev_bnot, ev_ife, ev_tup, ev_lst, ev_newObj, ev_sub, ev_slice, ev_rev, ev_call, ev_blt, ev_meth, ev_isinst, ev_lrg, lrgR, ev_lrg2, lrgR2, ev_lc, ev_skip, ev_seq, seqR_nx, seqR_rt, seqR_bk, seqR_ct, ev_expr, ev_asg, ev_par, unpR, ev_unp, setIR, ev_setI, ev_setO, ev_app, extR, ev_ext, ev_ret, ev_if, ev_whl, ev_for, ev_brk, ev_cont, ev_frz, ev_kill, killR_nx, killR_rt, killR_bk, ev_never, endR_rt, endR_nx, evEs, evBs, evIt, evOp, evC, evR, evRs, bindR_ok, bindR_bad, bindR_exc, bind_ite, optR_some, optR_none, opt_ite, noexc_ok, startS, getB, getS, subV, subD, atI, ixN, setv, setvs, setAll, bindT, wipe, frz, ownS, ownL, truthV, cmpV, binV, isinstV, lenV, bltV, isNV, mthTy, optI, sz, forB, l2__law_are_all_right, m0, m1, m2, f]
      rw [b1, bindR_ok]
      exact ih
    · cases e
end LawP
set_option maxHeartbeats 2000000
set_option autoImplicit false
namespace LawP
open MP
def pairOk (n : Nat) (p : List Bool × List Bool) : Bool :=
  decide (top p.1 * low p.2 < top p.2 * low p.1) && decide (top p.1 * low (cpf p.1 p.2) < top (cpf p.1 p.2) * low p.1) && decide (top (cpf p.1 p.2) * low p.2 < top p.2 * low (cpf p.1 p.2)) &&
    decide ((List.range n).filter (fun i => decide (p.1.take i = p.2.take i)) = List.range ((cpf p.1 p.2).length + 1))
def sizeOk (n : Nat) : Bool := (adj (rds n)).all (pairOk n) && decide (sm2 (rds n) 0 1 = some (1, 1))
theorem sizes_ok : ([1, 2, 3, 4, 5, 6, 7, 8].all sizeOk) = true := by decide +kernel
theorem size_ok {n : Nat} (h1 : 1 ≤ n) (h8 : n ≤ 8) : sizeOk n = true := List.all_eq_true.mp sizes_ok n (by
  have : n = 1 ∨ n = 2 ∨ n = 3 ∨ n = 4 ∨ n = 5 ∨ n = 6 ∨ n = 7 ∨ n = 8 := by omega
  rcases this with rfl | rfl | rfl | rfl | rfl | rfl | rfl | rfl <;> simp)
abbrev z14 (R E : Sl) : Env := [.e, R, .e, E, .e, .e, .e, .e, .e, .e, .e, .e, .e, .e, .e]
abbrev v4 (p : List Bool × List Bool) : Val := .tup [fe p.1, fe p.2, st p.1, st p.2]
theorem enc_inj {t u : List Bool} : enc t = enc u ↔ t = u := by
  constructor
  · intro h
    induction t generalizing u with
    | nil => cases u with
      | nil => rfl
      | cons b u => simp at h
    | cons a t ih => cases u with
      | nil => simp at h
      | cons b u =>
        simp only [List.map_cons, List.cons.injEq, sg_inj] at h
        rw [h.1, ih h.2]
  · intro h; rw [h]
theorem same14 (R E X4 X10 X12 : Sl) (n : Nat) (t u : List Bool) (ht : t.length = n) (hu : u.length = n) (hn : n ≤ 100) (h : MH) :
    mapR (turnLc (T 14) [14] (.name 14) (.yes (.cmp .eq (.sliceE (.var 6) .no (.yes (.var 14))) (.sliceE (.var 11) .no (.yes (.var 14))))) (.sliceE (.var 6) .no (.yes (.var 14)))
      [.e, R, .e, E, X4, .e, .v (st t), .e, .e, .e, X10, .v (st u), X12, .e, .e]) (rngL 0 n) h = .ok (((List.range n).filter fun i => decide (t.take i = u.take i)).map fun i => st (t.take i)) h := by
  refine mapR_filter (fun i : Nat => Val.int (0 + (i : Int))) _ _ (List.range n) fun i hi => ?_
  have hi' : i < n := List.mem_range.mp hi
  have c1 : cut (enc t) none (some (i : Int)) = enc (t.take i) := by rw [cut_to _ _ (by simp; omega), ← List.map_take]
  have c2 : cut (enc u) none (some (i : Int)) = enc (u.take i) := by rw [cut_to _ _ (by simp; omega), ← List.map_take]
  have z1 : t.length ≤ 16777216 := by omega
  have z2 : u.length ≤ 16777216 := by omega
  have q : (enc (t.take i) == enc (u.take i)) = decide (t.take i = u.take i) := by
    by_cases e : t.take i = u.take i
    · simp [e]
    · have : ¬ enc (t.take i) = enc (u.take i) := fun h => e (enc_inj.mp h)
      rw [decide_eq_false e, beq_eq_false_iff_ne]; exact this
  have k : turnLc (T 14) [14] (.name 14) (.yes (.cmp .eq (.sliceE (.var 6) .no (.yes (.var 14))) (.sliceE (.var 11) .no (.yes (.var 14))))) (.sliceE (.var 6) .no (.yes (.var 14)))
      [.e, R, .e, E, X4, .e, .v (.str (enc t)), .e, .e, .e, X10, .v (.str (enc u)), X12, .e, .e] (.int (0 + (i : Int))) h = .ok (if enc (t.take i) == enc (u.take i) then some (.str (enc (t.take i))) else none) h := by
    have z1 : (enc t).length ≤ 16777216 := by simp; omega
    have z2 : (enc u).length ≤ 16777216 := by simp; omega
    generalize enc t = A at *
    generalize enc u = B at *
    generalize enc (t.take i) = A' at *
    generalize enc (u.take i) = B' at *
    simp [-Res.bind, -List.map_map, -MP.opt, -Res.noexc, DR.def_, ev_var, ev_con, ev_glob, ev_bin, ev_neg, negR_int, ev_cmp, ev_chain, ev_isN, ev_notN, ev_band, ev_bor, ev_bnot, ev_ife, ev_tup, ev_lst, ev_newObj, ev_sub, ev_slice, ev_rev, ev_call, ev_blt, ev_meth, ev_isinst, ev_lrg, lrgR, ev_lrg2, lrgR2, ev_lc, ev_skip, ev_seq, seqR_nx, seqR_rt, seqR_bk, seqR_ct, ev_expr, ev_asg, ev_par, unpR, ev_unp, setIR, ev_setI, ev_setO, ev_app, extR, ev_ext, ev_ret, ev_if, ev_whl, ev_for, ev_brk, ev_cont, ev_frz, ev_kill, killR_nx, killR_rt, killR_bk, ev_never, endR_rt, endR_nx, evEs, evBs, evIt, evOp, evC, evR, evRs, bindR_ok, bindR_bad, bindR_exc, bind_ite, optR_some, optR_none, opt_ite, noexc_ok, startS, getB, getS, subV, subD, atI, ixN, setv, setvs, setAll, bindT, wipe, frz, ownS, ownL, truthV, cmpV, binV, isinstV, lenV, bltV, isNV, mthTy, optI, sz, turnLc, slcV, z1, z2, c1, c2, eqo_str]
    by_cases e : A' = B'
    · simp [e]
    · simp [e]
  rw [k, q]
theorem body14d (R E : Sl) (n : Nat) (p : List Bool × List Bool) (h1 : p.1.length = n) (h2 : p.2.length = n) (hn : n ≤ 8) (ok : pairOk n p = true) (h : MH) : forB (T 14) ckP (.tup [4, 10, 6, 11]) l1__law_are_all_right (v4 p) (z14 R E) h = .ok (.nx (z14 R E)) h := by
  obtain ⟨t, u⟩ := p
  simp only [pairOk, Bool.and_eq_true, decide_eq_true_eq] at ok h1 h2
  obtain ⟨⟨⟨o1, o2⟩, o3⟩, o4⟩ := ok
  have me := t_meet (n := 14) (by omega) t u (by omega) (by omega) h
  have cl := cpf_len t u
  have tk := cpf_take t u
  have en := t_end (n := 14) (by omega) (cpf t u) (by omega) h
  have la := t_is_less (n := 14) (by omega) (top t) (low t) (top (cpf t u)) (low (cpf t u)) h (Sm.m (top_sm _ (by omega)) (low_sm _ (by omega))) (Sm.m (top_sm _ (by omega)) (low_sm _ (by omega)))
  have lb := t_is_less (n := 14) (by omega) (top (cpf t u)) (low (cpf t u)) (top u) (low u) h (Sm.m (top_sm _ (by omega)) (low_sm _ (by omega))) (Sm.m (top_sm _ (by omega)) (low_sm _ (by omega)))
  rw [decide_eq_true o2] at la
  rw [decide_eq_true o3] at lb
  have sa := same14 R E (.v (fe t)) (.v (fe u)) (.v (fe (cpf t u))) n t u h1 h2 (by omega) h
  rw [o4] at sa
  obtain ⟨j, hj⟩ : ∃ j : Int, j = (n : Int) := ⟨_, rfl⟩
  have rg : rgOk 0 j = true := by
    simp only [rgOk, Bool.and_eq_true, decide_eq_true_eq]
    omega
  have z1 : (enc t).length ≤ 16777216 := by simp; omega
  have z3 : ((enc t).length : Int) = j := by rw [hj]; simp [h1]
  have z4 : j.toNat = n := by omega
  have z2 : j ≤ 16777216 := by omega
  have ll : ((List.range ((cpf t u).length + 1)).map fun i => st (t.take i)).length = (cpf t u).length + 1 := by simp
  have lg : ((List.range ((cpf t u).length + 1)).map fun i => st (t.take i))[(cpf t u).length]? = some (st (cpf t u)) := by simp [tk]
  generalize ((List.range ((cpf t u).length + 1)).map fun i => st (t.take i)) = L at *
  have p1 : (1 : Int) ≤ (cpf t u).length + 1 := by omega
  have p2 : (-1 + (((cpf t u).length : Int) + 1)).toNat = (cpf t u).length := by omega
  generalize (cpf t u).length = k at *
  have qq := eqo_fr (top (cpf t u)) (low (cpf t u)) (top (cpf t u)) (low (cpf t u))
  simp only [BEq.rfl, Bool.and_self] at qq
  unfold v4 fe at *
  show forB (T 14) ckP (.tup [4, 10, 6, 11]) l1__law_are_all_right (.tup [fr (top t) (low t), fr (top u) (low u), .str (enc t), .str (enc u)]) (z14 R E) h = _
  have sa' : mapR (turnLc (T 14) [14] (.name 14) (.yes (.cmp .eq (.sliceE (.var 6) .no (.yes (.var 14))) (.sliceE (.var 11) .no (.yes (.var 14))))) (.sliceE (.var 6) .no (.yes (.var 14)))
      [.e, R, .e, E, .v (fr (top t) (low t)), .e, .v (.str (enc t)), .e, .e, .e, .v (fr (top u) (low u)), .v (.str (enc u)), .v (fr (top (cpf t u)) (low (cpf t u))), .e, .e]) (rngL 0 n) h = .ok L h := sa
  have en' : T 14 11 [.str (enc (cpf t u))] h = .ok (fr (top (cpf t u)) (low (cpf t u))) h := en
  have lg' : L[k]? = some (.str (enc (cpf t u))) := lg
  clear sa en lg
  generalize enc (cpf t u) = C at *
  generalize enc t = A at *
  generalize enc u = B at *
  generalize top (cpf t u) = ct at *
  generalize low (cpf t u) = cl at *
  generalize top t = tt at *
  generalize low t = tl at *
  generalize top u = ut at *
  generalize low u = ul at *
  have kl : k < L.length := by omega
  have lg2 : L[k] = .str C := by rw [List.getElem?_eq_getElem kl] at lg'; exact Option.some.inj lg'
  simp [-Res.bind, -List.map_map, -MP.opt, -Res.noexc, DR.def_, ev_var, ev_con, ev_glob, ev_bin, ev_neg, negR_int, ev_cmp, ev_chain, ev_isN, ev_notN, ev_band, ev_bor, ev_bnot, ev_ife, ev_tup, ev_lst, ev_newObj, ev_sub, ev_slice, ev_rev, ev_call, ev_blt, ev_meth, ev_isinst, ev_lrg, lrgR, ev_lrg2, lrgR2, ev_lc, ev_skip, ev_seq, seqR_nx, seqR_rt, seqR_bk, seqR_ct, ev_expr, ev_asg, ev_par, unpR, ev_unp, setIR, ev_setI, ev_setO, ev_app, extR, ev_ext, ev_ret, ev_if, ev_whl, ev_for, ev_brk, ev_cont, ev_frz, ev_kill, killR_nx, killR_rt, killR_bk, ev_never, endR_rt, endR_nx, evEs, evBs, evIt, evOp, evC, evR, evRs, bindR_ok, bindR_bad, bindR_exc, bind_ite, optR_some, optR_none, opt_ite, noexc_ok, startS, getB, getS, subV, subD, atI, ixN, setv, setvs, setAll, bindT, wipe, frz, ownS, ownL, truthV, cmpV, binV, isinstV, lenV, bltV, isNV, mthTy, optI, sz, forB, l1__law_are_all_right, me, z1, z3, rg, z2, z4, sa', ll, p1, p2, lg2, en', qq, la, lb]
theorem loop14d (R E : Sl) (n : Nat) (hn : n ≤ 8) (h : MH) : ∀ (l : List (List Bool × List Bool)), (∀ p ∈ l, p.1.length = n ∧ p.2.length = n ∧ pairOk n p = true) → loopF (forB (T 14) ckP (.tup [4, 10, 6, 11]) l1__law_are_all_right) (l.map v4) (z14 R E) h = .ok (.nx (z14 R E)) h
  | [], _ => rfl
  | p :: l, hl => by
    obtain ⟨a, b, c⟩ := hl p (by simp)
    rw [List.map_cons, loopF, body14d R E n p a b hn c h, bindR_ok]
    exact loop14d R E n hn h l fun q hq => hl q (by simp [hq])
theorem bools_true' {α : Type} (l : List α) : boolsOf (l.map fun _ => Val.bl true) = some (l.map fun _ => true) := bools_true l
theorem t_all_right {n : Nat} (hn : 14 < n) (j : Int) (j1 : 1 ≤ j) (j8 : j ≤ 8) (h : MH) : T n 14 [.int j] h = .ok (.bl true) h := by
  obtain ⟨s, hs⟩ : ∃ s : Nat, j.toNat = s := ⟨_, rfl⟩
  have h1 : 1 ≤ s := by omega
  have h8 : s ≤ 8 := by omega
  have sz := size_ok h1 h8
  simp only [sizeOk, Bool.and_eq_true, List.all_eq_true, decide_eq_true_eq] at sz
  obtain ⟨ok, sm⟩ := sz
  have mem : ∀ p ∈ adj (rds s), p.1.length = s ∧ p.2.length = s ∧ pairOk s p = true := fun p hp => ⟨rds_len s _ (List.of_mem_zip hp).1, rds_len s _ (List.mem_of_mem_drop (List.of_mem_zip hp).2), ok p hp⟩
  have rg : rgOk 0 j = true := by
    simp only [rgOk, Bool.and_eq_true, decide_eq_true_eq]
    omega
  have z2 : j ≤ 16777216 := by omega
  have la := loop14b (.v (.int j)) h (rngL 0 s) 0 (by rw [rngL_len]; omega)
  rw [rngL_len, Nat.zero_add] at la
  have l0 : k14 (.v (.int j)) (rds 0) = [.v (.int j), .v (.lst [.str []]), .e, .e, .e, .e, .e, .e, .e, .e, .e, .e, .e, .e, .e] := rfl
  rw [l0] at la
  have lc := loop14c (.v (lR (rds s))) (.v (lE (rds s))) h (rds s) 0 1 1 1 (fun t ht => by rw [rds_len s t ht]; omega) sm
  have ld := loop14d (.v (lR (rds s))) (.v (lE (rds s))) s h8 h (adj (rds s)) mem
  have len := rds_num s
  have p2 : 2 ^ s ≤ 2 ^ 8 := Nat.pow_le_pow_right (by omega) h8
  have rl : (rds s).length ≤ 16777216 := by omega
  have e1 : mapR (turnLc (T 14) [6] (.name 6) .no (.call 1 (.cons (.var 6) .nil)) [.e, .v (lR (rds s)), .e, .e, .e, .e, .e, .e, .e, .e, .e, .e, .e, .e, .e]) ((rds s).map st) h = .ok ((rds s).map fe) h := by
    refine mapR_pure st fe (rds s) fun t ht => ?_
    have f := t_by_road' (n := 14) (by omega) t (by rw [rds_len s t ht]; omega) h
    simp [-Res.bind, -List.map_map, -MP.opt, -Res.noexc, DR.def_, ev_var, ev_con, ev_glob, ev_bin, ev_neg, negR_int, ev_cmp, ev_chain, ev_isN, ev_notN, ev_band, ev_bor, ev_bnot, ev_ife, ev_tup, ev_lst, ev_newObj, ev_sub, ev_slice, ev_rev, ev_call, ev_blt, ev_meth, ev_isinst, ev_lrg, lrgR, ev_lrg2, lrgR2, ev_lc, ev_skip, ev_seq, seqR_nx, seqR_rt, seqR_bk, seqR_ct, ev_expr, ev_asg, ev_par, unpR, ev_unp, setIR, ev_setI, ev_setO, ev_app, extR, ev_ext, ev_ret, ev_if, ev_whl, ev_for, ev_brk, ev_cont, ev_frz, ev_kill, killR_nx, killR_rt, killR_bk, ev_never, endR_rt, endR_nx, evEs, evBs, evIt, evOp, evC, evR, evRs, bindR_ok, bindR_bad, bindR_exc, bind_ite, optR_some, optR_none, opt_ite, noexc_ok, startS, getB, getS, subV, subD, atI, ixN, setv, setvs, setAll, bindT, wipe, frz, ownS, ownL, truthV, cmpV, binV, isinstV, lenV, bltV, isNV, mthTy, optI, sz, turnLc, f]
  have e2 : mapR (turnLc (T 14) [6] (.name 6) .no (.call 11 (.cons (.var 6) .nil)) [.e, .v (lR (rds s)), .e, .v (lE (rds s)), .e, .e, .e, .e, .e, .e, .e, .e, .e, .e, .e]) ((rds s).map st) h = .ok ((rds s).map fe) h := by
    refine mapR_pure st fe (rds s) fun t ht => ?_
    have f := t_end (n := 14) (by omega) t (by rw [rds_len s t ht]; omega) h
    simp [-Res.bind, -List.map_map, -MP.opt, -Res.noexc, DR.def_, ev_var, ev_con, ev_glob, ev_bin, ev_neg, negR_int, ev_cmp, ev_chain, ev_isN, ev_notN, ev_band, ev_bor, ev_bnot, ev_ife, ev_tup, ev_lst, ev_newObj, ev_sub, ev_slice, ev_rev, ev_call, ev_blt, ev_meth, ev_isinst, ev_lrg, lrgR, ev_lrg2, lrgR2, ev_lc, ev_skip, ev_seq, seqR_nx, seqR_rt, seqR_bk, seqR_ct, ev_expr, ev_asg, ev_par, unpR, ev_unp, setIR, ev_setI, ev_setO, ev_app, extR, ev_ext, ev_ret, ev_if, ev_whl, ev_for, ev_brk, ev_cont, ev_frz, ev_kill, killR_nx, killR_rt, killR_bk, ev_never, endR_rt, endR_nx, evEs, evBs, evIt, evOp, evC, evR, evRs, bindR_ok, bindR_bad, bindR_exc, bind_ite, optR_some, optR_none, opt_ite, noexc_ok, startS, getB, getS, subV, subD, atI, ixN, setv, setvs, setAll, bindT, wipe, frz, ownS, ownL, truthV, cmpV, binV, isinstV, lenV, bltV, isNV, mthTy, optI, sz, turnLc, f]
  have e3 : mapR (turnLc (T 14) [4, 10] (.tup [4, 10]) .no (.call 13 (.cons (.var 4) (.cons (.var 10) .nil))) [.e, .v (lR (rds s)), .e, .v (lE (rds s)), .e, .e, .e, .e, .e, .e, .e, .e, .e, .e, .e]) ((adj (rds s)).map fun p => .tup [fe p.1, fe p.2]) h = .ok ((adj (rds s)).map fun _ => Val.bl true) h := by
    refine mapR_pure (fun p => .tup [fe p.1, fe p.2]) (fun _ => Val.bl true) (adj (rds s)) fun p hp => ?_
    obtain ⟨a, b, c⟩ := mem p hp
    simp only [pairOk, Bool.and_eq_true, decide_eq_true_eq] at c
    have f := t_is_less (n := 14) (by omega) (top p.1) (low p.1) (top p.2) (low p.2) h (Sm.m (top_sm _ (by omega)) (low_sm _ (by omega))) (Sm.m (top_sm _ (by omega)) (low_sm _ (by omega)))
    rw [decide_eq_true c.1.1.1] at f
    simp [-Res.bind, -List.map_map, -MP.opt, -Res.noexc, DR.def_, ev_var, ev_con, ev_glob, ev_bin, ev_neg, negR_int, ev_cmp, ev_chain, ev_isN, ev_notN, ev_band, ev_bor, ev_bnot, ev_ife, ev_tup, ev_lst, ev_newObj, ev_sub, ev_slice, ev_rev, ev_call, ev_blt, ev_meth, ev_isinst, ev_lrg, lrgR, ev_lrg2, lrgR2, ev_lc, ev_skip, ev_seq, seqR_nx, seqR_rt, seqR_bk, seqR_ct, ev_expr, ev_asg, ev_par, unpR, ev_unp, setIR, ev_setI, ev_setO, ev_app, extR, ev_ext, ev_ret, ev_if, ev_whl, ev_for, ev_brk, ev_cont, ev_frz, ev_kill, killR_nx, killR_rt, killR_bk, ev_never, endR_rt, endR_nx, evEs, evBs, evIt, evOp, evC, evR, evRs, bindR_ok, bindR_bad, bindR_exc, bind_ite, optR_some, optR_none, opt_ite, noexc_ok, startS, getB, getS, subV, subD, atI, ixN, setv, setvs, setAll, bindT, wipe, frz, ownS, ownL, truthV, cmpV, binV, isinstV, lenV, bltV, isNV, mthTy, optI, sz, turnLc, f]
  have e4 : mapR (turnLc (T 14) [4] (.name 4) .no (.call 12 (.cons (.var 4) .nil)) [.e, .v (lR (rds s)), .e, .v (lE (rds s)), .e, .e, .e, .v (.int 1), .v (.int 1), .e, .e, .e, .e, .e, .e]) ((rds s).map fe) h = .ok ((rds s).map st) h := by
    refine mapR_pure fe st (rds s) fun t ht => ?_
    have f := t_road (n := 14) (by omega) t (by rw [rds_len s t ht]; omega) h
    simp [-Res.bind, -List.map_map, -MP.opt, -Res.noexc, DR.def_, ev_var, ev_con, ev_glob, ev_bin, ev_neg, negR_int, ev_cmp, ev_chain, ev_isN, ev_notN, ev_band, ev_bor, ev_bnot, ev_ife, ev_tup, ev_lst, ev_newObj, ev_sub, ev_slice, ev_rev, ev_call, ev_blt, ev_meth, ev_isinst, ev_lrg, lrgR, ev_lrg2, lrgR2, ev_lc, ev_skip, ev_seq, seqR_nx, seqR_rt, seqR_bk, seqR_ct, ev_expr, ev_asg, ev_par, unpR, ev_unp, setIR, ev_setI, ev_setO, ev_app, extR, ev_ext, ev_ret, ev_if, ev_whl, ev_for, ev_brk, ev_cont, ev_frz, ev_kill, killR_nx, killR_rt, killR_bk, ev_never, endR_rt, endR_nx, evEs, evBs, evIt, evOp, evC, evR, evRs, bindR_ok, bindR_bad, bindR_exc, bind_ite, optR_some, optR_none, opt_ite, noexc_ok, startS, getB, getS, subV, subD, atI, ixN, setv, setvs, setAll, bindT, wipe, frz, ownS, ownL, truthV, cmpV, binV, isinstV, lenV, bltV, isNV, mthTy, optI, sz, turnLc, f]
  have zz := zip2_map fe (rds s)
  have z4 := zip4_map fe st (rds s)
  have q1 := eqo_lE (rds s)
  have q2 := eqo_lR (rds s)
  have q3 := eqo_fr 1 1 1 1
  have bt := bools_true (adj (rds s))
  have at_ := all_true (adj (rds s))
  unfold k14 at la
  unfold m14 at lc
  unfold z14 at ld
  unfold lE lR at *
  unfold v4 at ld
  have rl1 : ((rds s).map fe).length ≤ 16777216 := by simpa using rl
  generalize (rds s).map fe = E at *
  generalize (rds s).map st = R at *
  generalize ((adj (rds s)).map fun _ => Val.bl true) = B at *
  generalize ((adj (rds s)).map fun p => Val.tup [fe p.1, fe p.2]) = Z2 at *
  generalize ((adj (rds s)).map fun p => Val.tup [fe p.1, fe p.2, st p.1, st p.2]) = Z4 at *
  generalize ((adj (rds s)).map fun _ => true) = Bt at *
  rw [T_run hn rfl rfl]
  simp [-Res.bind, -List.map_map, -MP.opt, -Res.noexc, DR.def_, ev_var, ev_con, ev_glob, ev_bin, ev_neg, negR_int, ev_cmp, ev_chain, ev_isN, ev_notN, ev_band, ev_bor, ev_bnot, ev_ife, ev_tup, ev_lst, ev_newObj, ev_sub, ev_slice, ev_rev, ev_call, ev_blt, ev_meth, ev_isinst, ev_lrg, lrgR, ev_lrg2, lrgR2, ev_lc, ev_skip, ev_seq, seqR_nx, seqR_rt, seqR_bk, seqR_ct, ev_expr, ev_asg, ev_par, unpR, ev_unp, setIR, ev_setI, ev_setO, ev_app, extR, ev_ext, ev_ret, ev_if, ev_whl, ev_for, ev_brk, ev_cont, ev_frz, ev_kill, killR_nx, killR_rt, killR_bk, ev_never, endR_rt, endR_nx, evEs, evBs, evIt, evOp, evC, evR, evRs, bindR_ok, bindR_bad, bindR_exc, bind_ite, optR_some, optR_none, opt_ite, noexc_ok, startS, getB, getS, subV, subD, atI, ixN, setv, setvs, setAll, bindT, wipe, frz, ownS, ownL, truthV, cmpV, binV, isinstV, lenV, bltV, isNV, mthTy, optI, sz, r__law_are_all_right, d__law_are_all_right, rg, z2, hs, la, e1, e2, e3, e4, slcV, rl1, zz, z4, q1, q2, q3, bt, at_, lc, ld]
end LawP
set_option maxHeartbeats 2000000
set_option autoImplicit false
namespace LawP
open MP
theorem all_bl : ∀ vs : List Val, (∀ v ∈ vs, v = .bl true) → boolsOf vs = some (vs.map fun _ => true)
  | [], _ => rfl
  | v :: vs, h => by
    have e := h v (by simp)
    subst e
    simp [boolsOf, all_bl vs fun w hw => h w (by simp [hw])]
theorem t_right (h : MH) (k : Nat) (p : Pot h k 0) : ∃ h', T 64 61 [.obj k] h = .ok (.bl true) h' := by
  obtain ⟨d, h1, e1, d0, d1, p1⟩ := t_take (n := 61) (by omega) p (by omega) 8 (by omega) (by unfold Lt; decide)
  have ar := t_all_right (n := 61) (by omega) (1 + d) (by omega) (by omega) h1
  obtain ⟨vs, h2, e2, l2, q2, p2⟩ := mapR_draw (f := turnLc (T 61) [1] (.name 1) .no (.band (.call 48 (.cons (.var 0) .nil)) (.call 60 (.cons (.var 0) .nil))) [.v (.obj k), .e]) (P := fun h n => Pot h k n) (Q := fun v => v = .bl true) (N := 2 ^ 20 - 400) (c := 147) (fun x h n hn p => by
    obtain ⟨ha, ea, pa⟩ := t_row p (by omega)
    obtain ⟨hb, eb, pb⟩ := t_terms_right (n := 61) (by omega) pa (by omega)
    refine ⟨.bl true, hb, ?_, rfl, pb⟩
    simp [-Res.bind, -List.map_map, -MP.opt, -Res.noexc, DR.def_, ev_var, ev_con, ev_glob, ev_bin, ev_neg, negR_int, ev_cmp, ev_chain, ev_isN, ev_notN, ev_band, ev_bor, ev_bnot, ev_ife, ev_tup, ev_lst, ev_newObj, ev_sub, ev_slice, ev_rev, ev_call, ev_blt, ev_meth, ev_isinst, ev_lrg, lrgR, ev_lrg2, lrgR2, ev_lc, ev_skip, ev_seq, seqR_nx, seqR_rt, seqR_bk, seqR_ct, ev_expr, ev_asg, ev_par, unpR, ev_unp, setIR, ev_setI, ev_setO, ev_app, extR, ev_ext, ev_ret, ev_if, ev_whl, ev_for, ev_brk, ev_cont, ev_frz, ev_kill, killR_nx, killR_rt, killR_bk, ev_never, endR_rt, endR_nx, evEs, evBs, evIt, evOp, evC, evR, evRs, bindR_ok, bindR_bad, bindR_exc, bind_ite, optR_some, optR_none, opt_ite, noexc_ok, startS, getB, getS, subV, subD, atI, ixN, setv, setvs, setAll, bindT, wipe, frz, ownS, ownL, truthV, cmpV, binV, isinstV, lenV, bltV, isNV, mthTy, optI, sz, turnLc, ea, eb]) (rngL 0 3) h1 1 p1 (by rw [rngL_len]; decide) (by omega)
  have ab := all_bl vs q2
  have at_ := all_true vs
  refine ⟨h2, ?_⟩
  rw [T_run (by omega) rfl rfl]
  generalize (vs.map fun _ => true) = B at *
  simp [-Res.bind, -List.map_map, -MP.opt, -Res.noexc, DR.def_, ev_var, ev_con, ev_glob, ev_bin, ev_neg, negR_int, ev_cmp, ev_chain, ev_isN, ev_notN, ev_band, ev_bor, ev_bnot, ev_ife, ev_tup, ev_lst, ev_newObj, ev_sub, ev_slice, ev_rev, ev_call, ev_blt, ev_meth, ev_isinst, ev_lrg, lrgR, ev_lrg2, lrgR2, ev_lc, ev_skip, ev_seq, seqR_nx, seqR_rt, seqR_bk, seqR_ct, ev_expr, ev_asg, ev_par, unpR, ev_unp, setIR, ev_setI, ev_setO, ev_app, extR, ev_ext, ev_ret, ev_if, ev_whl, ev_for, ev_brk, ev_cont, ev_frz, ev_kill, killR_nx, killR_rt, killR_bk, ev_never, endR_rt, endR_nx, evEs, evBs, evIt, evOp, evC, evR, evRs, bindR_ok, bindR_bad, bindR_exc, bind_ite, optR_some, optR_none, opt_ite, noexc_ok, startS, getB, getS, subV, subD, atI, ixN, setv, setvs, setAll, bindT, wipe, frz, ownS, ownL, truthV, cmpV, binV, isinstV, lenV, bltV, isNV, mthTy, optI, sz, r__law_right, d__law_right, e1, ar, rgOk, e2, ab, at_]
theorem mainP (ns : List Int) (_ : ns.length ≤ 63) : ∃ h', MP.tab LawP.ckP (LawP.rowsP.map MP.DR.def_) 65 64 [.lst (ns.map MP.Val.int)] [] = .ok (.bl true) h' := law_top t_right ns
end LawP
set_option maxHeartbeats 0 in
theorem PySem.Challenge.cw_wheelandbell_k36_whole_roads_read_from_b_holds : PySem.Challenge.rw_wheelandbell_k36_whole_roads_read_from_b.Holds :=
  law_holds LawP.mainP
