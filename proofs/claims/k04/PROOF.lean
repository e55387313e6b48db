import PyProof.Rows.All
import Wide.All
import OpenK.AllK
import Wide.FinOn
import HandS.Dict
import HandS.ForMost
import HandS.ForExc
import HandS.ExcCtx
import HandS.Deep
import HandS.Conv
import HandS.TupAny
import HandS.Zip
import HandS.IsInst
import HandS.Lambda
import HandS.TupMul
import HandS.Strs
import HandS.Style
import HandS.SortOrd
import HandS.SortInts
import HandS.TupSets
import HandS.SetFor
import HandS.More
import HandS.ExcOwn
import HandS.Flow
import KE.GoesEnum
import HandS.Ends
import HandS.Words
import HandS.WordsExc
import HandS.Defaults
import HandS.Head0
import HandS.Head1
import HandS.Head2
import HandS.HeadEnd
import HandS.HeadHook1
import HandS.HeadHook2
import HandS.HotCalls
import HandS.ExcIs
import HandS.HeadHook3
import HandS.HeadHook4
import HandS.EndTab
import PySem.Challenge.RW_anypaint_k04_whole_claims_that_surely_ar
set_option Elab.async false
set_option linter.all false
/-! Tn1: a small pure language of its own: data, syntax, what a text of it computes. -/
namespace Tn
open PySem
abbrev D := PyData
abbrev Ds := List PyData

/-! ### values -/
/-- what an expression gives: data; a fresh list of our own; a peek at an own list; a handle of a mutable thing; a function; the script -/
inductive SV where
  | d (x : D) | own (ds : Ds) | p (ds : Ds) | h (k : Nat) | f (n : Nat) | s (ns : List Int)
inductive MO where
  | nums (ns : List Int)
abbrev Mem := List MO
abbrev EnvT := List (Option SV)
inductive R (α : Type) where
  | ok (a : α) (m : Mem) | ex (c : Nat) (p : Option Int) (m : Mem) | no
def R.bind {α β : Type} (r : R α) (k : α → Mem → R β) : R β := match r with
  | .ok a m => k a m
  | .ex c p m => .ex c p m
  | .no => .no

/-! ### syntax -/
inductive Bo | add | sub | mul | fdiv | mod
  deriving DecidableEq
inductive Co | eq | ne | lt | le | gt | ge | isin | notin
  deriving DecidableEq
/-- built-in functions by number of use -/
inductive Bi | len | int | str | abs | min2 | max2 | min1 | max1 | list | tuple | sorted | bool | sset
  deriving DecidableEq
inductive Ty | int | str | tuple | bool | list
  deriving DecidableEq
inductive Mt | join | split | upper | index
  deriving DecidableEq
inductive Tg | one (i : Nat) | tup (is : List Nat)
  deriving DecidableEq
mutual
inductive E where
  | var (i : Nat) | cst (x : D) | glo (g : Nat) | fnr (n : Nat) | pow (a b : Nat)
  | bin (o : Bo) (a b : E) | neg (a : E)
  | cmp (o : Co) (a b : E) | chn (a : E) (o : Co) (b : E) (o2 : Co) (c : E)
  | isn (ng : Bool) (a : E) | isb (a : E) (b : Bool)
  | ands (es : Es) | ors (es : Es) | not (a : E) | ite (c a b : E)
  | tup (es : Es) | lst (es : Es)
  | idx (a b : E) | slo (a b : E) | shi (a b : E) | rev (a : E)
  | call (n : Nat) (es : Es) | cav (i : Nat) (es : Es)
  | blt (b : Bi) (es : Es) | isi (a : E) (t : Ty) | joi (a b : E) | spl (a b : E) | upp (a : E)
  | kdc (g : Nat) (a : E) | sse (a : E) | lrg (a : E) | trg (a : E)
  | cm1 (elt : E) (tg : Tg) (it : It) (own : List Nat) (tst : Es)
  | cm2 (elt : E) (tg : Tg) (it : It) (tg2 : Tg) (it2 : It) (own own2 : List Nat) (tst : Es)
  | ler (body : E)
  | tnot (a : E)
inductive Es where
  | nil | cons (e : E) (es : Es)
inductive It where
  | dat (e : E) | rng (e : E) | rng2 (a b : E) | enm (e : E) | zip (a b : E) | fns (ns : List Nat)
end
mutual
inductive S where
  | asg (i : Nat) (e : E) | asgs (is : List Nat) (es : Es) | unp (is : List Nat) (e : E)
  | newh (i : Nat) (e : E) | app (i : Nat) (e : E) | sti (i : Nat) (ix e : E)
  | exp (e : E) | ret (e : E) | retN
  | ifs (c : E) (a b : Ss) | whl (c : E) (b : Ss) | fr (tg : Tg) (it : It) (b : Ss)
  | rai (c : Nat) | raiv (c : Nat) (e : E)
  | frz (i : Nat) (s : S) | any
inductive Ss where
  | nil | cons (s : S) (ss : Ss)
  /-- x = {text: text, ..}; return (x[a],) + b -/
  | dct (i : Nat) (kvs : List (Str × Str)) (a b : E)
end
structure Fn where
  ar : Nat
  sl : Nat
  body : Ss

def isDV : It → Bool
  | .dat (.var _) => true
  | _ => false
/-! ### operations on data -/
/-- plain signs alone -/
def ascS (x : Str) : Bool := x.cps.toList.all (· < 128)
mutual
def asc : D → Bool
  | .none | .bool _ | .int _ => true
  | .str x => ascS x
  | .list xs | .tuple xs => ascAll xs
  | .dict _ => false
def ascAll : Ds → Bool
  | [] => true
  | x :: xs => asc x && ascAll xs
end
def LIM : Nat := 1000000
def opd : SV → Option D
  | .d x => some x
  | .own ds => some (.list ds)
  | .p ds => some (.list ds)
  | _ => none
/-- as a part of data, as an argument -/
def toD : SV → Option D
  | .d x => some x
  | .own ds => some (.list ds)
  | _ => none
def toA : SV → Option SV
  | .d x => some (.d x)
  | .own ds => some (.d (.list ds))
  | .h k => some (.h k)
  | .f n => some (.f n)
  | .s ns => some (.s ns)
  | .p _ => none
def dbl (b : Bool) : SV := .d (.bool b)
def isNn : SV → Bool
  | .d .none => true
  | _ => false
def isBk (b : Bool) : D → Bool
  | .bool k => k == b
  | _ => false
def small (i : Int) : Bool := decide (-(2 ^ 64) < i) && decide (i < 2 ^ 64)
def binD (o : Bo) (x y : D) : Option SV := match o, x, y with
  | .add, .int i, .int j => some (.d (.int (i + j)))
  | .add, .str a, .str b => if a.length + b.length ≤ LIM then some (.d (.str (a ++ b))) else none
  | .add, .tuple a, .tuple b => if a.length + b.length ≤ LIM then some (.d (.tuple (a ++ b))) else none
  | .add, .list a, .list b => if a.length + b.length ≤ LIM then some (.own (a ++ b)) else none
  | .sub, .int i, .int j => some (.d (.int (i - j)))
  | .mul, .int i, .int j => if small i || small j then some (.d (.int (i * j))) else none
  | .mul, .list a, .int k => if 0 ≤ k ∧ k ≤ 1000 ∧ a.length ≤ 1000 then some (.own (List.replicate k.toNat a).flatten) else none
  | .mul, .tuple a, .int k => if 2 ≤ k ∧ k ≤ 1000 ∧ a.length ≤ 1000 ∧ a ≠ [] then some (.d (.tuple (List.replicate k.toNat a).flatten)) else none
  | .fdiv, .int i, .int j => if 0 < j ∧ j < 1073741824 then some (.d (.int (i / j))) else none
  | .mod, .int i, .int j => if 0 < j then some (.d (.int (i % j))) else none
  | .add, .bool b, .int j => some (.d (.int ((if b = true then 1 else 0) + j)))
  | .sub, .bool b, .int j => some (.d (.int ((if b = true then 1 else 0) - j)))
  | _, _, _ => none
def eqOk (x y : D) : Bool := decide (min x.depth y.depth ≤ 64)
def isFlat : D → Bool
  | .none | .bool _ | .int _ | .str _ => true
  | _ => false
def inD (x y : D) : Option Bool := match y with
  | .list ds => if x.depth ≤ 64 ∧ (PyData.list ds).depth ≤ 64 then some (ds.any fun z => PyData.eqv z x) else none
  | .tuple ds => if isFlat x && ds.all isFlat then some (ds.any fun z => PyData.eqv z x) else none
  | _ => none
def cmpD (o : Co) (x y : D) : Option Bool := match o with
  | .eq => if eqOk x y then some (PyData.eqv x y) else none
  | .ne => if eqOk x y then some (!PyData.eqv x y) else none
  | .isin => inD x y
  | .notin => (inD x y).map (!·)
  | .lt => match x, y with | .int i, .int j => some (decide (i < j)) | _, _ => none
  | .le => match x, y with | .int i, .int j => some (decide (i ≤ j)) | _, _ => none
  | .gt => match x, y with | .int i, .int j => some (decide (j < i)) | _, _ => none
  | .ge => match x, y with | .int i, .int j => some (decide (j ≤ i)) | _, _ => none
/-- the place of an index -/
def at_ {α : Type} (xs : List α) (i : Int) : Option α := if 0 ≤ i then xs[i.toNat]? else if 0 ≤ (xs.length : Int) + i then xs[((xs.length : Int) + i).toNat]? else none
def idxD (x y : D) : Option D := match x, y with
  | .tuple ds, .int i => at_ ds i
  | .list ds, .int i => at_ ds i
  | .str z, .int i => if z.length ≤ LIM then (at_ z.cps.toList i).map fun c => .str ⟨#[c]⟩ else none
  | _, _ => none
def sIx (n : Nat) (i : Int) : Nat := if 0 ≤ i then min i.toNat n else ((n : Int) + i).toNat
def loD (x y : D) : Option SV := match x, y with
  | .tuple ds, .int i => some (.d (.tuple (ds.drop (sIx ds.length i))))
  | .list ds, .int i => some (.own (ds.drop (sIx ds.length i)))
  | .str z, .int i => if z.length ≤ LIM then some (.d (.str ⟨(z.cps.toList.drop (sIx z.length i)).toArray⟩)) else none
  | _, _ => none
def hiD (x y : D) : Option SV := match x, y with
  | .tuple ds, .int i => some (.d (.tuple (ds.take (sIx ds.length i))))
  | .list ds, .int i => some (.own (ds.take (sIx ds.length i)))
  | .str z, .int i => if z.length ≤ LIM then some (.d (.str ⟨(z.cps.toList.take (sIx z.length i)).toArray⟩)) else none
  | _, _ => none
def revD (x : D) : Option SV := match x with
  | .tuple ds => some (.d (.tuple ds.reverse))
  | .list ds => some (.own ds.reverse)
  | _ => none
def isiD (x : D) (t : Ty) : Bool := match t, x with
  | .int, .int _ => true
  | .int, .bool _ => true
  | .bool, .bool _ => true
  | .str, .str _ => true
  | .tuple, .tuple _ => true
  | .list, .list _ => true
  | _, _ => false
def intsOf : Ds → Option (List Int)
  | [] => some []
  | .int i :: r => (intsOf r).map (i :: ·)
  | _ :: _ => none
def strsOf : Ds → Option (List Str)
  | [] => some []
  | .str x :: r => (strsOf r).map (x :: ·)
  | _ :: _ => none
def tupsOf : Ds → Option (List (List Int))
  | [] => some []
  | .tuple t :: r => match intsOf t, tupsOf r with
    | some a, some b => some (a :: b)
    | _, _ => none
  | _ :: _ => none
def insI (x : Int) : List Int → List Int
  | [] => [x]
  | y :: r => if x ≤ y then x :: y :: r else y :: insI x r
def sortI : List Int → List Int
  | [] => []
  | x :: r => insI x (sortI r)
def lexLt : List Int → List Int → Bool
  | [], [] => false
  | [], _ :: _ => true
  | _ :: _, [] => false
  | x :: xs, y :: ys => if x = y then lexLt xs ys else decide (x < y)
def insT (x : List Int) : List (List Int) → List (List Int)
  | [] => [x]
  | y :: r => if lexLt y x then y :: insT x r else x :: y :: r
def sortT : List (List Int) → List (List Int)
  | [] => []
  | x :: r => insT x (sortT r)
def dedI : List Int → List Int
  | [] => []
  | x :: r => if x ∈ r then dedI r else x :: dedI r
def dedT : List (List Int) → List (List Int)
  | [] => []
  | x :: r => if x ∈ r then dedT r else x :: dedT r
def dI (ns : List Int) : Ds := ns.map PyData.int
def dT (ts : List (List Int)) : Ds := ts.map fun t => PyData.tuple (dI t)
def tOk (_ : List (List Int)) : Bool := true
def sortedD (ds : Ds) : Option Ds := if ds.length < 64 then match intsOf ds with
  | some ns => some (dI (sortI ns))
  | none => match tupsOf ds with
    | some ts => if tOk ts then some (dT (sortT ts)) else none
    | none => none
  else none
def ssetD (x : D) : Option Ds := match x with
  | .tuple ds => if ds.length < 64 then match intsOf ds with
    | some ns => some (dI (sortI (dedI ns)))
    | none => none
    else none
  | .list ds => if ds.length < 64 then match intsOf ds with
    | some ns => some (dI (sortI (dedI ns)))
    | none => match tupsOf ds with
      | some ts => if tOk (dedT ts) then some (dT (sortT (dedT ts))) else none
      | none => none
    else none
  | _ => none
def seqOf : D → Option Ds
  | .tuple ds => some ds
  | .list ds => some ds
  | _ => none
def minI (x : Int) (r : List Int) : Int := r.foldl (fun a b => if b < a then b else a) x
def maxI (x : Int) (r : List Int) : Int := r.foldl (fun a b => if a < b then b else a) x
def bltD (b : Bi) (xs : List D) : Option SV := match b, xs with
  | .len, [.tuple ds] => some (.d (.int ds.length))
  | .len, [.list ds] => some (.d (.int ds.length))
  | .len, [.str x] => if x.length ≤ LIM then some (.d (.int x.length)) else none
  | .int, [.int i] => some (.d (.int i))
  | .int, [.str x] => if x.length ≤ 640 then (PySem.intText? x).map fun i => .d (.int i) else none
  | .str, [.int i] => if i.natAbs.log2 < 1920 then some (.d (.str (toString i))) else none
  | .abs, [.int i] => some (.d (.int (if i < 0 then -i else i)))
  | .min2, [.int i, .int j] => some (.d (.int (if j < i then j else i)))
  | .max2, [.int i, .int j] => some (.d (.int (if j > i then j else i)))
  | .min1, [.list ds] => match intsOf ds with
    | some (x :: r) => some (.d (.int (minI x r)))
    | _ => none
  | .max1, [.list ds] => match intsOf ds with
    | some (x :: r) => some (.d (.int (maxI x r)))
    | _ => none
  | .list, [.tuple ds] => some (.own ds)
  | .list, [.list ds] => some (.own ds)
  | .tuple, [.list ds] => some (.d (.tuple ds))
  | .tuple, [.tuple ds] => some (.d (.tuple ds))
  | .sorted, [.list ds] => (sortedD ds).map .own
  | .bool, [.bool k] => some (dbl k)
  | .str, [.bool k] => some (.d (.str (if k = true then .ofString "True" else .ofString "False")))
  | _, _ => none
def mthD (m : Mt) (x : D) (ys : List D) : Option SV := match m, x, ys with
  | .join, .str a, [.list ds] => match strsOf ds with
    | some zs => if (zs.map (·.length)).sum + zs.length * a.length ≤ LIM then some (.d (.str (Txt.join a zs))) else none
    | none => none
  | .split, .str a, [.str b] => if b.length ≠ 0 ∧ a.length ≤ LIM then some (.own ((Txt.split a b).map PyData.str)) else none
  | .upper, .str a, [] => if a.length ≤ LIM then some (.d (.str (Txt.upper a))) else none
  | _, _, _ => none

/-! ### what an expression gives -/
def bd (r : R SV) (k : D → Mem → R SV) : R SV := r.bind fun v m => match opd v with
  | some x => k x m
  | none => .no
def lift (o : Option SV) (m : Mem) : R SV := match o with
  | some v => .ok v m
  | none => .no
def bindT (tg : Tg) (v : SV) (env : EnvT) : Option EnvT := match tg, v with
  | .one i, .d x => if i < env.length then some (env.set i (some (.d x))) else none
  | .one i, .f n => if i < env.length then some (env.set i (some (.f n))) else none
  | .tup is, .d (.tuple ds) => if is.length = ds.length ∧ is.all (· < env.length) then some ((is.zip ds).foldl (fun e p => e.set p.1 (some (.d p.2))) env) else none
  | _, _ => none
def wipeE (env : EnvT) : List Nat → EnvT
  | [] => env
  | v :: vs => (wipeE env vs).set v none
/-- a comprehension's loop: nothing may be raised in it -/
def cLoop (tg : Tg) (tst : EnvT → Mem → R Bool) (el : EnvT → Mem → R SV) (env : EnvT) : List SV → Ds → Mem → R Ds
  | [], acc, m => .ok acc m
  | x :: xs, acc, m => match bindT tg x env with
    | none => .no
    | some e' => match tst e' m with
      | .ok true m1 => match el e' m1 with
        | .ok v m2 => match toD v with
          | some y => cLoop tg tst el env xs (acc ++ [y]) m2
          | none => .no
        | _ => .no
      | .ok false m1 => cLoop tg tst el env xs acc m1
      | _ => .no
def cLoop2 (tg : Tg) (own2 : List Nat) (it2 : EnvT → Mem → R (List SV)) (tg2 : Tg) (tst : EnvT → Mem → R Bool) (el : EnvT → Mem → R SV) (env : EnvT) : List SV → Ds → Mem → R Ds
  | [], acc, m => .ok acc m
  | x :: xs, acc, m => match bindT tg x env with
    | none => .no
    | some e' => match it2 e' m with
      | .ok ys m1 => match cLoop tg2 tst el (wipeE e' own2) ys acc m1 with
        | .ok acc2 m2 => cLoop2 tg own2 it2 tg2 tst el env xs acc2 m2
        | _ => .no
      | _ => .no
/-- is this a value to be walked in place? -/
def pkOk (pk : Bool) : SV → Bool
  | .p _ => pk
  | _ => true
def enumD (ds : Ds) : List SV := (ds.zipIdx).map fun p => .d (.tuple [.int (p.2 : Nat), p.1])
def zipD (as bs : Ds) : List SV := (as.zip bs).map fun p => .d (.tuple [p.1, p.2])
def rngD (lo : Int) (n : Nat) : List SV := (List.range n).map fun i => .d (.int (lo + (i : Nat)))

structure Glob where
  /-- constants; dicts by texts; the words of the error classes -/
  gc : Nat → Option D
  gk : Nat → Option (List (Str × D))
  er : Nat → Option Str
variable (G : Glob) (c : Nat → List SV → Mem → R SV)
mutual
def evE : E → EnvT → Mem → R SV
  | .var i, env, m => match env[i]? with
    | some (some (.own ds)) => .ok (.p ds) m
    | some (some v) => .ok v m
    | _ => .no
  | .cst x, _, m => .ok (.d x) m
  | .glo g, _, m => match G.gc g with
    | some x => .ok (.d x) m
    | none => .no
  | .fnr n, _, m => .ok (.f n) m
  | .pow a b, _, m => .ok (.d (.int ((a ^ b : Nat) : Int))) m
  | .bin o a b, env, m => bd (evE a env m) fun x m => bd (evE b env m) fun y m => lift (binD o x y) m
  | .neg a, env, m => bd (evE a env m) fun x m => match x with
    | .int i => .ok (.d (.int (-i))) m
    | _ => .no
  | .cmp o a b, env, m => bd (evE a env m) fun x m => bd (evE b env m) fun y m => lift ((cmpD o x y).map dbl) m
  | .chn a o b o2 e3, env, m => bd (evE a env m) fun x m => bd (evE b env m) fun y m => match cmpD o x y with
    | some true => bd (evE e3 env m) fun z m => lift ((cmpD o2 y z).map dbl) m
    | some false => .ok (dbl false) m
    | none => .no
  | .isn ng a, env, m => (evE a env m).bind fun v m => .ok (dbl (isNn v != ng)) m
  | .isb a b, env, m => bd (evE a env m) fun x m => .ok (dbl (isBk b x)) m
  | .ands es, env, m => evA es env m
  | .ors es, env, m => evO es env m
  | .not a, env, m => bd (evE a env m) fun x m => match x with
    | .bool k => .ok (dbl !k) m
    | _ => .no
  | .ite t a b, env, m => bd (evE t env m) fun x m => match x with
    | .bool true => (evE a env m).bind fun v m => match v with | .p _ => .no | _ => .ok v m
    | .bool false => (evE b env m).bind fun v m => match v with | .p _ => .no | _ => .ok v m
    | _ => .no
  | .tup es, env, m => (evs es env m).bind fun vs m => match vs.mapM toD with
    | some ds => if ds.length ≤ 1000 then .ok (.d (.tuple ds)) m else .no
    | none => .no
  | .lst es, env, m => (evs es env m).bind fun vs m => match vs.mapM toD with
    | some ds => if ds.length ≤ 1000 then .ok (.own ds) m else .no
    | none => .no
  | .idx a b, env, m => (evE a env m).bind fun v m => bd (evE b env m) fun y m => match v, y with
    | .h k, .int i => match m[k]? with
      | some (.nums ns) => lift ((at_ ns i).map fun j => .d (.int j)) m
      | none => .no
    | .s ns, .int i => lift ((at_ ns i).map fun j => .d (.int j)) m
    | _, _ => match opd v with
      | some x => lift ((idxD x y).map .d) m
      | none => .no
  | .slo a b, env, m => bd (evE a env m) fun x m => bd (evE b env m) fun y m => lift (loD x y) m
  | .shi a b, env, m => bd (evE a env m) fun x m => bd (evE b env m) fun y m => lift (hiD x y) m
  | .rev a, env, m => bd (evE a env m) fun x m => lift (revD x) m
  | .call n es, env, m => (evs es env m).bind fun vs m => match vs.mapM toA with
    | some args => c n args m
    | none => .no
  | .cav i es, env, m => match env[i]? with
    | some (some (.f n)) => (evs es env m).bind fun vs m => match vs.mapM toA with
      | some args => c n args m
      | none => .no
    | _ => .no
  | .blt b es, env, m => (evs es env m).bind fun vs m => match b, vs with
    | .len, [.s ns] => .ok (.d (.int ns.length)) m
    | _, _ => match vs.mapM opd with
      | some xs => lift (bltD b xs) m
      | none => .no
  | .isi a t, env, m => bd (evE a env m) fun x m => .ok (dbl (isiD x t)) m
  | .joi a b, env, m => bd (evE a env m) fun x m => match x with
    | .str z => bd (evE b env m) fun y m => lift (mthD .join (.str z) [y]) m
    | _ => .no
  | .spl a b, env, m => bd (evE a env m) fun x m => match x with
    | .str z => bd (evE b env m) fun y m => lift (mthD .split (.str z) [y]) m
    | _ => .no
  | .upp a, env, m => bd (evE a env m) fun x m => lift (mthD .upper x []) m
  | .kdc g a, env, m => match G.gk g with
    | some t => bd (evE a env m) fun x m => match x with
      | .str z => lift ((t.lookup z).map .d) m
      | _ => .no
    | none => .no
  | .sse a, env, m => bd (evE a env m) fun x m => lift ((ssetD x).map .own) m
  | .lrg a, env, m => bd (evE a env m) fun x m => match x with
    | .int n => if n ≤ 1000 ∧ 0 ≤ n then .ok (.own (dI ((List.range n.toNat).map fun i => ((i : Nat) : Int)))) m else .no
    | _ => .no
  | .trg a, env, m => bd (evE a env m) fun x m => match x with
    | .int n => if n ≤ 1000 ∧ 0 ≤ n then .ok (.d (.tuple (dI ((List.range n.toNat).map fun i => ((i : Nat) : Int))))) m else .no
    | _ => .no
  | .cm1 elt tg it own tst, env, m => (evI true it env m).bind fun xs m => if xs.length ≤ LIM then match cLoop tg (evT tst) (evE elt) (wipeE env own) xs [] m with
      | .ok acc m => .ok (.own acc) m
      | _ => .no
    else .no
  | .cm2 elt tg it tg2 it2 own own2 tst, env, m => (evI true it env m).bind fun xs m => match cLoop2 tg own2 (evI (isDV it2) it2) tg2 (evT tst) (evE elt) (wipeE env own) xs [] m with
      | .ok acc m => if acc.length ≤ LIM then .ok (.own acc) m else .no
      | _ => .no
  | .ler body, env, m => match evE body env m with
    | .ok _ m => .ok (.d (.str ⟨#[]⟩)) m
    | .ex k none m => match G.er k with
      | some z => .ok (.d (.str z)) m
      | none => .no
    | _ => .no
  | .tnot a, env, m => bd (evE a env m) fun x m => match x with
    | .bool k => .ok (dbl !k) m
    | .int i => .ok (dbl (i == 0)) m
    | _ => .no
def evs : Es → EnvT → Mem → R (List SV)
  | .nil, _, m => .ok [] m
  | .cons e es, env, m => (evE e env m).bind fun v m => (evs es env m).bind fun vs m => .ok (v :: vs) m
/-- a and b and ..; a or b or .. -/
def evA : Es → EnvT → Mem → R SV
  | .nil, _, _ => .no
  | .cons e es, env, m => match es with
    | .nil => bd (evE e env m) fun x m => match x with
      | .bool k => .ok (dbl k) m
      | _ => .no
    | .cons _ _ => bd (evE e env m) fun x m => match x with
      | .bool true => evA es env m
      | .bool false => .ok (dbl false) m
      | _ => .no
def evO : Es → EnvT → Mem → R SV
  | .nil, _, _ => .no
  | .cons e es, env, m => match es with
    | .nil => bd (evE e env m) fun x m => match x with
      | .bool k => .ok (dbl k) m
      | _ => .no
    | .cons _ _ => bd (evE e env m) fun x m => match x with
      | .bool true => .ok (dbl true) m
      | .bool false => evO es env m
      | _ => .no
/-- all tests, from the left -/
def evT : Es → EnvT → Mem → R Bool
  | .nil, _, m => .ok true m
  | .cons e es, env, m => (evE e env m).bind fun v m => match v with
    | .d (.bool true) => evT es env m
    | .d (.bool false) => .ok false m
    | _ => .no
def evI (pk : Bool) : It → EnvT → Mem → R (List SV)
  | .dat e, env, m => (evE e env m).bind fun v m => if pkOk pk v = true then match opd v with
      | some x => match seqOf x with
        | some ds => .ok (ds.map .d) m
        | none => .no
      | none => .no
    else .no
  | .rng e, env, m => (evE e env m).bind fun v m => match v with
    | .d (.int n) => if n ≤ 1000000 then if -1000000 ≤ n then .ok (rngD 0 n.toNat) m else .no else .no
    | _ => .no
  | .rng2 a b, env, m => (evE a env m).bind fun v m => (evE b env m).bind fun w m => match v, w with
    | .d (.int i), .d (.int j) => if -1000000 ≤ i ∧ j ≤ 1000000 ∧ i ≤ 1000000 ∧ -1000000 ≤ j then .ok (rngD i (j - i).toNat) m else .no
    | _, _ => .no
  | .enm e, env, m => (evE e env m).bind fun v m => if pkOk pk v = true then match opd v with
      | some (.list ds) => .ok (enumD ds) m
      | some (.tuple ds) => .ok (enumD ds) m
      | _ => .no
    else .no
  | .zip a b, env, m => (evE a env m).bind fun v m => (evE b env m).bind fun w m => if pkOk pk v = true ∧ pkOk pk w = true then match opd v, opd w with
      | some (.list xs), some (.list ys) => .ok (zipD xs ys) m
      | _, _ => .no
    else .no
  | .fns ns, _, m => .ok (ns.map .f) m
end

/-! ### what a statement does -/
inductive O where
  | nx (env : EnvT) (m : Mem) | rt (v : SV) (m : Mem) | ex (c : Nat) (p : Option Int) (m : Mem) | no
/-- an expression, then -/
def O.of {α : Type} (r : R α) (k : α → Mem → O) : O := match r with
  | .ok a m => k a m
  | .ex c p m => .ex c p m
  | .no => .no
def O.seq (o : O) (k : EnvT → Mem → O) : O := match o with
  | .nx e m => k e m
  | o => o
def whileL (t : EnvT → Mem → R SV) (b : EnvT → Mem → O) : Nat → EnvT → Mem → O
  | 0, _, _ => .no
  | n + 1, env, m => match t env m with
    | .ok (.d (.bool true)) m1 => (b env m1).seq (whileL t b n)
    | .ok (.d (.bool false)) m1 => .nx env m1
    | .ex c p m1 => .ex c p m1
    | _ => .no
def forL (tg : Tg) (b : EnvT → Mem → O) : List SV → EnvT → Mem → O
  | [], env, m => .nx env m
  | x :: xs, env, m => match bindT tg x env with
    | some e' => (b e' m).seq (forL tg b xs)
    | none => .no
/-- an own list that is walked by a loop is data from then on -/
def fz (i : Nat) (env : EnvT) : EnvT := match env[i]? with
  | some (some (.own ds)) => env.set i (some (.d (.list ds)))
  | _ => env
def frz : It → EnvT → EnvT
  | .dat (.var i), env => fz i env
  | .enm (.var i), env => fz i env
  | .zip (.var i) (.var j), env => fz i (fz j env)
  | .zip (.var i) _, env => fz i env
  | .zip _ (.var j), env => fz j env
  | _, env => env
/-- into a slot -/
def slotV : SV → Option SV
  | .p _ => none
  | v => some v
def setS (env : EnvT) (i : Nat) (v : SV) (m : Mem) : O := match slotV v with
  | some w => if i < env.length then .nx (env.set i (some w)) m else .no
  | none => .no
def setAll : List Nat → List SV → EnvT → Option EnvT
  | [], [], env => some env
  | i :: is, v :: vs, env => match slotV v with
    | some w => if i < env.length then setAll is vs (env.set i (some w)) else none
    | none => none
  | _, _, _ => none
/-- a dict of texts -/
def dkF (kvs : List (Str × Str)) : D → Option Str
  | .str s => match L2.valV (L2.mergeK [] (kvs.map fun q => ((Sum.inr q.1 : L2.Key), L2.V.str q.2))) (.inr s) with
    | some (.str t) => some t
    | _ => none
  | _ => none
def dcK (o : Option Str) (k : Str → R SV) : R SV := match o with
  | some t => k t
  | none => .no
def dcO (o : Option (Option SV)) (r : R SV) : O := match o with
  | some none => .of r fun v m => match v with
    | .d y => .rt (.d y) m
    | _ => .no
  | _ => .no
mutual
def exS : S → EnvT → Mem → O
  | .asg i e, env, m => .of (evE G c e env m) fun v m => setS env i v m
  | .asgs is es, env, m => .of (evs G c es env m) fun vs m => match setAll is vs env with
    | some e' => .nx e' m
    | none => .no
  | .unp is e, env, m => .of (evE G c e env m) fun v m => match bindT (.tup is) v env with
    | some e' => .nx e' m
    | none => .no
  | .newh i e, env, m => .of (evE G c e env m) fun v m => match v with
    | .own ds => match intsOf ds with
      | some ns => if i < env.length then .nx (env.set i (some (.h m.length))) (m ++ [.nums ns]) else .no
      | none => .no
    | _ => .no
  | .app i e, env, m => match env[i]? with
    | some (some (.own ds)) => .of (evE G c e env m) fun v m => match toD v with
      | some y => if ds.length < LIM then .nx (env.set i (some (.own (ds ++ [y])))) m else .no
      | none => .no
    | _ => .no
  | .sti i ix e, env, m => match env[i]? with
    | some (some (.own ds)) => .of (evE G c e env m) fun v m => .of (evE G c ix env m) fun w m => match w, toD v with
      | .d (.int j), some y => if 0 ≤ j ∧ j.toNat < ds.length then .nx (env.set i (some (.own (ds.set j.toNat y)))) m else .no
      | _, _ => .no
    | some (some (.h k)) => .of (evE G c e env m) fun v m => .of (evE G c ix env m) fun w m => match w, v with
      | .d (.int j), .d (.int y) => match m[k]? with
        | some (.nums ns) => if 0 ≤ j ∧ j.toNat < ns.length then .nx env (m.set k (.nums (ns.set j.toNat y))) else .no
        | none => .no
      | _, _ => .no
    | _ => .no
  | .exp e, env, m => .of (evE G c e env m) fun _ m => .nx env m
  | .ret e, env, m => match e with
    | .var i => match env[i]? with
      | some (some (.own ds)) => .rt (.own ds) m
      | some (some (.h _)) => .no
      | some (some v) => .rt v m
      | _ => .no
    | _ => .of (evE G c e env m) fun v m => match v with
      | .p _ => .no
      | .h _ => .no
      | _ => .rt v m
  | .retN, _, m => .rt (.d .none) m
  | .ifs t a b, env, m => .of (evE G c t env m) fun v m => match v with
    | .d (.bool true) => exB a env m
    | .d (.bool false) => exB b env m
    | _ => .no
  | .whl t b, env, m => whileL (evE G c t) (exB b) 100 env m
  | .fr tg it b, env, m => .of (evI G c false it (frz it env) m) fun xs m => forL tg (exB b) xs (frz it env) m
  | .rai k, _, m => .ex k none m
  | .raiv k e, env, m => .of (evE G c e env m) fun v m => match v with
    | .d (.int i) => .ex k (some i) m
    | _ => .no
  | .frz i s, env, m => exS s (fz i env) m
  | .any, _, _ => .no
def exB : Ss → EnvT → Mem → O
  | .nil, env, m => .nx env m
  | .cons s ss, env, m => (exS s env m).seq (exB ss)
  | .dct i kvs a b, env, m => dcO env[i]? (bd (evE G c a env m) fun x m => dcK (dkF kvs x) fun t => bd (evE G c b env m) fun y m => lift (binD .add (.tuple [.str t]) y) m)
end
def initE (n : Nat) (args : List SV) : EnvT := args.map some ++ List.replicate (n - args.length) none
def runF (fn : Fn) (args : List SV) (m : Mem) : R SV := if args.length = fn.ar ∧ fn.ar ≤ fn.sl then match exB G c fn.body (initE fn.sl args) m with
    | .nx _ m' => .ok (.d .none) (m'.take m.length)
    | .rt v m' => .ok v (m'.take m.length)
    | .ex k p m' => .ex k p (m'.take m.length)
    | .no => .no
  else .no
def callN (G : Glob) (tab : Nat → Option Fn) : Nat → Nat → List SV → Mem → R SV
  | 0, _, _, _ => .no
  | n + 1, f, args, m => match tab f with
    | some fn => runF G (callN G tab n) fn args m
    | none => .no
end Tn

set_option maxRecDepth 100000
/-! Tn2: how the small language's data and store lie in the layer's heap. -/
namespace Tn
open PySem PySem.Spec PyProof.Rows L2

def NoT (o : HO) : Prop := ∀ ps, o ≠ .tbl ps
/-- all but the things at av and the tables stay; nothing goes -/
structure Gr (av : List Addr) (H H' : Hp) : Prop where
  st : ∀ b o, H b = some o → b ∉ av → NoT o → H' b = some o
  al : ∀ b, H b ≠ none → H' b ≠ none
theorem Gr.refl {av : List Addr} {H : Hp} : Gr av H H := ⟨fun _ _ h _ _ => h, fun _ h => h⟩
theorem Gr.trans {av : List Addr} {H H1 H2 : Hp} (a : Gr av H H1) (b : Gr av H1 H2) : Gr av H H2 := ⟨fun c o h n t => b.st c o (a.st c o h n t) n t, fun c h => b.al c (a.al c h)⟩
theorem Gr.wk {av av' : List Addr} {H H' : Hp} (a : Gr av H H') (s : ∀ b ∈ av, b ∈ av') : Gr av' H H' := ⟨fun c o h n t => a.st c o h (fun z => n (s c z)) t, a.al⟩
theorem upd_al {H : Hp} {p : Addr} {o : HO} : ∀ b, H b ≠ none → upd H p o b ≠ none := fun b h => by
  unfold upd; split
  · exact fun z => nomatch z
  · exact h
theorem Gr.new {av : List Addr} {H : Hp} {p : Addr} {o : HO} (n : H p = none) : Gr av H (upd H p o) := ⟨fun b u e _ _ => by
  rw [upd_ne (ne_of_none e n)]; exact e, upd_al⟩
theorem Gr.free {av : List Addr} {H H' : Hp} (g : Gr av H H') {p : Addr} (n : H' p = none) : H p = none := by
  cases q : H p with
  | none => rfl
  | some o => exact absurd n (g.al p (by rw [q]; exact fun z => nomatch z))
def hide (hd : List Addr) (H : Hp) : Hp := fun b => if b ∈ hd then none else H b
theorem hide_in {hd : List Addr} {H : Hp} {b : Addr} (h : b ∈ hd) : hide hd H b = none := if_pos h
theorem hide_out {hd : List Addr} {H : Hp} {b : Addr} (h : b ∉ hd) : hide hd H b = H b := if_neg h
theorem hide_some {hd : List Addr} {H : Hp} {b : Addr} {o : HO} (h : hide hd H b = some o) : b ∉ hd ∧ H b = some o := by
  unfold hide at h
  split at h
  · cases h
  · exact ⟨by assumption, h⟩

/-- what is data in the one heap is data in the other -/
def Le (H H' : Hp) : Prop := ∀ b o, H b = some o → NoT o → H' b = some o
theorem Le.refl {H : Hp} : Le H H := fun _ _ h _ => h
theorem Le.trans {H H1 H2 : Hp} (a : Le H H1) (b : Le H1 H2) : Le H H2 := fun c o h t => b c o (a c o h t) t
theorem noT_lst {xs : List V} : NoT (.lst xs) := fun _ => HO.noConfusion
theorem noT_tup {xs : List V} : NoT (.tup xs) := fun _ => HO.noConfusion
theorem noT_frz {o : Obj} {u : HO} : NoT (.frz o u) := fun _ => HO.noConfusion
theorem hide_le {hd : List Addr} {H : Hp} : Le (hide hd H) H := fun _ _ h _ => (hide_some h).2
theorem hide_sub {hd hd' : List Addr} {H : Hp} (s : ∀ b ∈ hd', b ∈ hd) : Le (hide hd H) (hide hd' H) := fun b o h _ => by
  obtain ⟨n, e⟩ := hide_some h
  rw [hide_out fun z => n (s b z)]; exact e
theorem hide_gr {av hd : List Addr} {H H' : Hp} (g : Gr av H H') (s : ∀ b ∈ av, b ∈ hd) : Le (hide hd H) (hide hd H') := fun b o h t => by
  obtain ⟨n, e⟩ := hide_some h
  rw [hide_out n]; exact g.st b o e (fun z => n (s b z)) t
/-- .. a fresh address may be hidden, too -/
theorem hide_new {av hd : List Addr} {H H' : Hp} {a : Addr} (g : Gr av H H') (s : ∀ b ∈ av, b ∈ hd) (n : H a = none) : Le (hide hd H) (hide (a :: hd) H') := fun b o h t => by
  obtain ⟨nb, e⟩ := hide_some h
  have : b ∉ a :: hd := fun z => by
    rcases List.mem_cons.mp z with z | z
    · rw [z, n] at e; cases e
    · exact nb z
  rw [hide_out this]; exact g.st b o e (fun z => nb (s b z)) t
theorem hide_upd {hd : List Addr} {H : Hp} {a : Addr} {o : HO} (h : a ∈ hd) : hide hd (upd H a o) = hide hd H := by
  funext b
  by_cases hb : b ∈ hd
  · rw [hide_in hb, hide_in hb]
  · rw [hide_out hb, hide_out hb, upd_ne fun z => hb (by rw [z]; exact h)]

mutual
/-- data as it lies: lists are tracked ones -/
inductive Dq (K : PySem.W.Frag) (H : Hp) : V → D → Prop
  | non : Dq K H .non .none
  | bl (b : Bool) : Dq K H (.bl b) (.bool b)
  | int (i : Int) : Dq K H (.int i) (.int i)
  | str (x : Str) : Dq K H (.str x) (.str x)
  | lst {a : Addr} {xs : List V} {ds : Ds} : H a = some (.lst xs) → DqAll K H xs ds → Dq K H (.ref a) (.list ds)
  | tup {a : Addr} {xs : List V} {ds : Ds} : SqT K H a xs → DqAll K H xs ds → Dq K H (.ref a) (.tuple ds)
inductive DqAll (K : PySem.W.Frag) (H : Hp) : List V → Ds → Prop
  | nil : DqAll K H [] []
  | cons {v : V} {vs : List V} {d : D} {ds : Ds} : Dq K H v d → DqAll K H vs ds → DqAll K H (v :: vs) (d :: ds)
end
section
variable {K : PySem.W.Frag} {H H' : Hp}
mutual
theorem dq_dp : ∀ (d : D) (v : V), Dq K H v d → Dp K H v d
  | .none, _, h => by cases h; exact .non
  | .bool b, _, h => by cases h; exact .bl b
  | .int i, _, h => by cases h; exact .int i
  | .str x, _, h => by cases h; exact .str x
  | .list ds, _, h => by
    cases h with
    | lst hs ha => exact .lst (.of hs) (dqAll_dp ds _ ha)
  | .tuple ds, _, h => by
    cases h with
    | tup hs ha => exact .tup hs (dqAll_dp ds _ ha)
  | .dict _, _, h => by cases h
theorem dqAll_dp : ∀ (ds : Ds) (vs : List V), DqAll K H vs ds → DpAll K H vs ds
  | [], _, h => by cases h; exact .nil
  | d :: ds, _, h => by
    cases h with
    | cons h1 h2 => exact .cons (dq_dp d _ h1) (dqAll_dp ds _ h2)
end
theorem sqL_le {a : Addr} {xs : List V} (l : Le H H') (h : SqL K H a xs) : SqL K H' a xs := by
  rcases h with (h | ⟨o, h⟩) | h
  · exact .inl (.inl (l _ _ h noT_lst))
  · exact .inl (.inr ⟨o, l _ _ h noT_frz⟩)
  · exact .inr h
theorem sqT_le {a : Addr} {xs : List V} (l : Le H H') (h : SqT K H a xs) : SqT K H' a xs := by
  rcases h with (h | ⟨o, h⟩) | h
  · exact .inl (.inl (l _ _ h noT_tup))
  · exact .inl (.inr ⟨o, l _ _ h noT_frz⟩)
  · exact .inr h
mutual
theorem dq_le (l : Le H H') : ∀ (d : D) (v : V), Dq K H v d → Dq K H' v d
  | .none, _, h => by cases h; exact .non
  | .bool b, _, h => by cases h; exact .bl b
  | .int i, _, h => by cases h; exact .int i
  | .str x, _, h => by cases h; exact .str x
  | .list ds, _, h => by
    cases h with
    | lst hs ha => exact .lst (l _ _ hs noT_lst) (dqAll_le l ds _ ha)
  | .tuple ds, _, h => by
    cases h with
    | tup hs ha => exact .tup (sqT_le l hs) (dqAll_le l ds _ ha)
  | .dict _, _, h => by cases h
theorem dqAll_le (l : Le H H') : ∀ (ds : Ds) (vs : List V), DqAll K H vs ds → DqAll K H' vs ds
  | [], _, h => by cases h; exact .nil
  | d :: ds, _, h => by
    cases h with
    | cons h1 h2 => exact .cons (dq_le l d _ h1) (dqAll_le l ds _ h2)
end
theorem DqAll.len {vs : List V} {ds : Ds} (h : DqAll K H vs ds) : vs.length = ds.length := by
  induction ds generalizing vs with
  | nil => cases h; rfl
  | cons d ds ih => cases h with
    | cons h1 h2 => rw [List.length_cons, List.length_cons, ih h2]
theorem DqAll.get {vs : List V} {ds : Ds} (h : DqAll K H vs ds) {i : Nat} {d : D} (e : ds[i]? = some d) : ∃ v, vs[i]? = some v ∧ Dq K H v d := by
  induction ds generalizing vs i with
  | nil => simp at e
  | cons d0 ds ih =>
    cases h with
    | cons h1 h2 =>
      cases i with
      | zero => simp at e; subst e; exact ⟨_, rfl, h1⟩
      | succ i => exact ih h2 (by simpa using e)
theorem DqAll.app {vs ws : List V} {ds es : Ds} (h : DqAll K H vs ds) (h' : DqAll K H ws es) : DqAll K H (vs ++ ws) (ds ++ es) := by
  induction ds generalizing vs with
  | nil => cases h; exact h'
  | cons d ds ih => cases h with
    | cons h1 h2 => exact .cons h1 (ih h2)
theorem DqAll.take {vs : List V} {ds : Ds} (h : DqAll K H vs ds) (n : Nat) : DqAll K H (vs.take n) (ds.take n) := by
  induction ds generalizing vs n with
  | nil => cases h; rw [List.take_nil, List.take_nil]; exact .nil
  | cons d ds ih => cases h with
    | cons h1 h2 => cases n with
      | zero => exact .nil
      | succ n => exact .cons h1 (ih h2 n)
theorem DqAll.drop {vs : List V} {ds : Ds} (h : DqAll K H vs ds) (n : Nat) : DqAll K H (vs.drop n) (ds.drop n) := by
  induction ds generalizing vs n with
  | nil => cases h; rw [List.drop_nil, List.drop_nil]; exact .nil
  | cons d ds ih => cases h with
    | cons h1 h2 => cases n with
      | zero => exact .cons h1 h2
      | succ n => exact ih h2 n
theorem DqAll.rev {vs : List V} {ds : Ds} (h : DqAll K H vs ds) : DqAll K H vs.reverse ds.reverse := by
  induction ds generalizing vs with
  | nil => cases h; exact .nil
  | cons d ds ih => cases h with
    | cons h1 h2 =>
      rw [List.reverse_cons, List.reverse_cons]
      exact DqAll.app (ih h2) (.cons h1 .nil)
theorem DqAll.rep {vs : List V} {ds : Ds} (h : DqAll K H vs ds) (n : Nat) : DqAll K H (List.replicate n vs).flatten (List.replicate n ds).flatten := by
  induction n with
  | zero => exact .nil
  | succ n ih =>
    rw [List.replicate_succ, List.replicate_succ, List.flatten_cons, List.flatten_cons]
    exact DqAll.app h ih
theorem DqAll.set {vs : List V} {ds : Ds} {v : V} {d : D} (h : DqAll K H vs ds) (hv : Dq K H v d) (n : Nat) : DqAll K H (vs.set n v) (ds.set n d) := by
  induction ds generalizing vs n with
  | nil => cases h; exact .nil
  | cons d0 ds ih => cases h with
    | cons h1 h2 => cases n with
      | zero => exact .cons hv h2
      | succ n => exact .cons h1 (ih h2 n)
theorem DqAll.nums : ∀ ns : List Int, DqAll K H (ns.map V.int) (dI ns)
  | [] => .nil
  | n :: r => .cons (.int n) (DqAll.nums r)
theorem DqAll.strs : ∀ ns : List Str, DqAll K H (ns.map V.str) (ns.map PyData.str)
  | [] => .nil
  | n :: r => .cons (.str n) (DqAll.strs r)
theorem dqAll_ints : ∀ {ds : Ds} {ns : List Int} {vs : List V}, intsOf ds = some ns → DqAll K H vs ds → vs = ns.map V.int
  | [], _, _, e, h => by cases h; cases e; rfl
  | d :: ds, ns, _, e, h => by
    cases h with
    | cons h1 h2 =>
      cases d with
      | int i =>
        unfold intsOf at e
        cases q : intsOf ds with
        | none => rw [q] at e; cases e
        | some r =>
          rw [q] at e; cases e
          cases h1
          rw [dqAll_ints q h2]; rfl
      | _ => simp [intsOf] at e
theorem dqAll_strs : ∀ {ds : Ds} {ns : List Str} {vs : List V}, strsOf ds = some ns → DqAll K H vs ds → vs = ns.map V.str
  | [], _, _, e, h => by cases h; cases e; rfl
  | d :: ds, ns, _, e, h => by
    cases h with
    | cons h1 h2 =>
      cases d with
      | str i =>
        unfold strsOf at e
        cases q : strsOf ds with
        | none => rw [q] at e; cases e
        | some r =>
          rw [q] at e; cases e
          cases h1
          rw [dqAll_strs q h2]; rfl
      | _ => simp [strsOf] at e
end

/-! ### plain data: texts of plain signs -/
abbrev Lay (d : D) : Prop := asc d = true
abbrev LayAll (ds : Ds) : Prop := ascAll ds = true
theorem layAll_iff {ds : Ds} : LayAll ds ↔ ∀ d ∈ ds, Lay d := by
  induction ds with
  | nil => simp [LayAll, ascAll]
  | cons d r ih => simp only [LayAll, Lay, ascAll, Bool.and_eq_true, List.mem_cons, forall_eq_or_imp] at ih ⊢; rw [ih]
theorem lay_list {ds : Ds} : Lay (.list ds) ↔ LayAll ds := by simp [Lay, LayAll, asc]
theorem lay_tup {ds : Ds} : Lay (.tuple ds) ↔ LayAll ds := by simp [Lay, LayAll, asc]
mutual
theorem Lay.can : ∀ {d : D}, Lay d → d.canLay0 = true
  | .none, _ => rfl
  | .bool _, _ => rfl
  | .int _, _ => rfl
  | .str x, h => by
    have h : ascS x = true := h
    show PyData.strOk x = true
    unfold PyData.strOk
    rw [← Array.all_toList]
    unfold ascS at h
    rw [List.all_eq_true] at h ⊢
    intro c hc
    have := of_decide_eq_true (h c hc)
    exact decide_eq_true (by omega)
  | .list ds, h => by
    have q := LayAll.can (lay_list.mp h)
    simpa [PyData.canLay0] using q
  | .tuple ds, h => by
    have q := LayAll.can (lay_tup.mp h)
    simpa [PyData.canLay0] using q
  | .dict _, h => by simp [Lay, asc] at h
theorem LayAll.can : ∀ {ds : Ds}, LayAll ds → PyData.canLayAll0 ds = true
  | [], _ => rfl
  | d :: ds, h => by
    simp only [LayAll, ascAll, Bool.and_eq_true] at h
    simp only [PyData.canLayAll0, Bool.and_eq_true]
    exact ⟨Lay.can h.1, LayAll.can h.2⟩
end
theorem LayAll.get {ds : Ds} (h : LayAll ds) {i : Nat} {d : D} (e : ds[i]? = some d) : Lay d := layAll_iff.mp h d (List.mem_of_getElem? e)
theorem LayAll.app {ds es : Ds} (h : LayAll ds) (h' : LayAll es) : LayAll (ds ++ es) := layAll_iff.mpr fun d hd => (List.mem_append.mp hd).elim (layAll_iff.mp h d) (layAll_iff.mp h' d)
theorem LayAll.of_sub {ds es : Ds} (h : LayAll ds) (s : ∀ d ∈ es, d ∈ ds) : LayAll es := layAll_iff.mpr fun d hd => layAll_iff.mp h d (s d hd)
theorem LayAll.of_sub' {ds : Ds} {d : D} {n : Nat} (h : LayAll ds) (hd : Lay d) : LayAll (ds.set n d) := layAll_iff.mpr fun e he => (List.mem_or_eq_of_mem_set he).elim (layAll_iff.mp h e) fun z => by rw [z]; exact hd
theorem layAll_ints (ns : List Int) : LayAll (dI ns) := layAll_iff.mpr fun d hd => by
  obtain ⟨i, _, rfl⟩ := List.mem_map.mp hd; rfl

/-! ### what a value, a store, a frame lie as -/
/-- data: in the heap without what is hidden -/
def Rp (K : PySem.W.Frag) (hd : List Addr) (H : Hp) (x : V) (d : D) : Prop := Dq K (hide hd H) x d ∧ Lay d
def RpAll (K : PySem.W.Frag) (hd : List Addr) (H : Hp) (xs : List V) (ds : Ds) : Prop := DqAll K (hide hd H) xs ds ∧ LayAll ds
theorem Rp.le {K : PySem.W.Frag} {hd hd' : List Addr} {H H' : Hp} {x : V} {d : D} (h : Rp K hd H x d) (l : Le (hide hd H) (hide hd' H')) : Rp K hd' H' x d := ⟨dq_le l _ _ h.1, h.2⟩
theorem RpAll.le {K : PySem.W.Frag} {hd hd' : List Addr} {H H' : Hp} {x : List V} {d : Ds} (h : RpAll K hd H x d) (l : Le (hide hd H) (hide hd' H')) : RpAll K hd' H' x d := ⟨dqAll_le l _ _ h.1, h.2⟩
/-- a value; H0: the heap ahead of it (a fresh list is new since) -/
def RV (K : PySem.W.Frag) (fa : Nat → Option Addr) (av hd : List Addr) (H0 H : Hp) (x : V) : SV → Prop
  | .d y => Rp K hd H x y
  | .own ds => ∃ a xs, x = .ref a ∧ H0 a = none ∧ a ∉ hd ∧ H a = some (.lst xs) ∧ RpAll K (a :: hd) H xs ds
  | .p ds => ∃ a xs, x = .ref a ∧ a ∉ av ∧ H a = some (.lst xs) ∧ RpAll K hd H xs ds
  | .h k => ∃ a, av[k]? = some a ∧ x = .ref a
  | .f n => ∃ a, fa n = some a ∧ x = .ref a
  | .s ns => ∃ a, x = .ref a ∧ SqL K (hide hd H) a (ns.map V.int)
def MOk (K : PySem.W.Frag) (hd : List Addr) (H : Hp) (a : Addr) : MO → Prop
  | .nums ns => H a = some (.lst (ns.map V.int))
/-- the store; the code objects' tables -/
structure RM (T : List (Addr × Str)) (K : PySem.W.Frag) (av hd : List Addr) (H : Hp) (m : Mem) : Prop where
  len : av.length = m.length
  nd : av.Nodup
  sub : ∀ b ∈ av, b ∈ hd
  mo : ∀ (k : Nat) (a : Addr) (o : MO), av[k]? = some a → m[k]? = some o → MOk K hd H a o
  tab : LamX.Tabs T H
  al : ∀ b ∈ hd, H b ≠ none
theorem tabs_to {T : List (Addr × Str)} {H H' : Hp} (t : LamX.Tabs T H) (e : ∀ b o, H b = some o → (∀ xs, o ≠ .lst xs) → H' b = some o) : LamX.Tabs T H' := fun p hp => by
  obtain ⟨ps, h1, h2, h3⟩ := t p hp
  refine ⟨ps, e _ _ h1 (fun _ => HO.noConfusion), h2, fun pos cv hc => ?_⟩
  obtain ⟨c, e1, e2⟩ := h3 pos cv hc
  exact ⟨c, e1, e _ _ e2 (fun _ z => by unfold LamX.CodeO at z; cases z)⟩
section
variable {T : List (Addr × Str)} {K : PySem.W.Frag} {av hd : List Addr} {H : Hp} {m : Mem}
theorem MOk.ne {a : Addr} {o : MO} (h : MOk K hd H a o) : H a ≠ none := by
  cases o with
  | nums ns => intro z; have q : H a = some (.lst (ns.map V.int)) := h; rw [z] at q; cases q
theorem RM.addr (r : RM T K av hd H m) {a : Addr} (ha : a ∈ av) : H a ≠ none := by
  obtain ⟨k, hk, e⟩ := List.mem_iff_getElem.mp ha
  have h1 : av[k]? = some a := by rw [List.getElem?_eq_getElem hk, e]
  have h2 : k < m.length := by rw [← r.len]; exact hk
  exact (r.mo k a _ h1 (List.getElem?_eq_getElem h2)).ne
/-- another thing is new, or changed -/
theorem RM.keep (r : RM T K av hd H m) {H' : Hp} (al : ∀ b, H b ≠ none → H' b ≠ none) (e : ∀ b ∈ av, H' b = H b) (t : ∀ b o, H b = some o → (∀ xs, o ≠ .lst xs) → H' b = some o) : RM T K av hd H' m :=
  ⟨r.len, r.nd, r.sub, fun k a o h1 h2 => by
    have q := r.mo k a o h1 h2
    cases o with
    | nums ns =>
      have q' : H a = some (.lst (ns.map V.int)) := q
      show H' a = _
      rw [e a (List.mem_of_getElem? h1)]; exact q', tabs_to r.tab t, fun b hb => al b (r.al b hb)⟩
theorem RM.new (r : RM T K av hd H m) {p : Addr} {o : HO} (n : H p = none) : RM T K av hd (upd H p o) m :=
  r.keep upd_al (fun b hb => upd_ne fun z => r.addr hb (by rw [z]; exact n)) fun b u e _ => by rw [upd_ne (ne_of_none e n)]; exact e
theorem RM.own (r : RM T K av hd H m) {p : Addr} {xs ys : List V} (n : H p = some (.lst xs)) (na : p ∉ av) : RM T K av hd (upd H p (.lst ys)) m :=
  r.keep upd_al (fun b hb => upd_ne fun z => na (by rw [← z]; exact hb)) fun b u e t => by
    have : b ≠ p := fun z => by rw [z, n] at e; cases e; exact t xs rfl
    rw [upd_ne this]; exact e
theorem RM.wd (r : RM T K av hd H m) {hd' : List Addr} (s : ∀ b ∈ hd, b ∈ hd') (al : ∀ b ∈ hd', H b ≠ none) : RM T K av hd' H m :=
  ⟨r.len, r.nd, fun b hb => s b (r.sub b hb), fun k a o h1 h2 => by
    have q := r.mo k a o h1 h2
    cases o with
    | nums ns => exact q, r.tab, al⟩
theorem RM.nw (r : RM T K av hd H m) {p : Addr} (n : H p = none) : p ∉ hd := fun z => r.al p z n
theorem RM.na (r : RM T K av hd H m) {p : Addr} (n : H p = none) : p ∉ av := fun z => r.nw n (r.sub p z)
end
end Tn

set_option maxRecDepth 100000
set_option maxHeartbeats 1000000
/-! Tn3: what holds of what; the operators by values. -/
namespace Tn
open PySem PySem.Spec PyProof.Rows L2

/-! ### readings that say what is wanted, no more -/
def wpE (X : Cx) (e : Expr) : TE := fun σ H Q => ∀ (pins : List (Addr × Obj)) (s : Shared), Inv X pins σ H s → wpAny (model X.prog X.w) X.A (eval e X.env) (EP X pins σ Q) X.xe s
theorem pe_w {X : Cx} {e : Expr} : PE X e (wpE X e) := ⟨fun pins s _ _ _ I h => h pins s I⟩
theorem wp_of {X : Cx} {e : Expr} {t : TE} {σ : L2.St} {H : Hp} {Q : VK} (h : PE X e t) (q : t σ H Q) : wpE X e σ H Q := fun pins s I => h.run pins s σ H Q I q
def wpT (X : Cx) (e : Expr) : TT := fun σ H Q => ∀ (pins : List (Addr × Obj)) (s : Shared), Inv X pins σ H s → wpAny (model X.prog X.w) X.A (isTrue e X.env (eval e X.env)) (TP X pins σ Q) X.xe s
theorem pt_w {X : Cx} {e : Expr} : PT X e (wpT X e) := ⟨fun pins s _ _ _ I h => h pins s I⟩
theorem wpT_of {X : Cx} {e : Expr} {t : TT} {σ : L2.St} {H : Hp} {Q : Bool → Hp → Prop} (h : PT X e t) (q : t σ H Q) : wpT X e σ H Q := fun pins s I => h.run pins s σ H Q I q
def wpA (X : Cx) (es : List Expr) : TA := fun σ H Q => ∀ (pos : Pos) (pins : List (Addr × Obj)) (s : Shared), Inv X pins σ H s → wpAny (model X.prog X.w) X.A (spliced (backTo pos (starEach es X.env))) (AP X pins σ Q) X.xe s
theorem pa_w {X : Cx} {es : List Expr} : PA X es (wpA X es) := ⟨fun pos pins s _ _ _ I h => h pos pins s I⟩
theorem wpA_of {X : Cx} {es : List Expr} {t : TA} {σ : L2.St} {H : Hp} {Q : List V → Hp → Prop} (h : PA X es t) (q : t σ H Q) : wpA X es σ H Q := fun pos pins s I => h.run pos pins s σ H Q I q
def wpS (X : Cx) (st : Stmt) : TS := fun D σ H => ∀ (pins : List (Addr × Obj)) (s : Shared), Inv X pins σ H s → wpAny (model X.prog X.w) X.A (exec st X.env) (SP X pins D) X.xe s
theorem ps_w {X : Cx} {st : Stmt} : PS X st (wpS X st) := ⟨fun pins s _ _ _ I h => h pins s I⟩
theorem wpS_of {X : Cx} {st : Stmt} {t : TS} {σ : L2.St} {H : Hp} {D : Ends} (h : PS X st t) (q : t D σ H) : wpS X st D σ H := fun pins s I => h.run pins s σ H D I q
def wpB (X : Cx) (st : List Stmt) : TS := fun D σ H => ∀ (pins : List (Addr × Obj)) (s : Shared), Inv X pins σ H s → wpAny (model X.prog X.w) X.A (execs st X.env) (SP X pins D) X.xe s
theorem pss_w {X : Cx} {st : List Stmt} : PSs X st (wpB X st) := ⟨fun pins s _ _ _ I h => h pins s I⟩
theorem wpB_of {X : Cx} {st : List Stmt} {t : TS} {σ : L2.St} {H : Hp} {D : Ends} (h : PSs X st t) (q : t D σ H) : wpB X st D σ H := fun pins s I => h.run pins s σ H D I q
def wpO (X : Cx) (f : Value → Value → Sem Value) : R2 := fun x y H Q => ∀ (pins : List (Addr × Obj)) (s : Shared) (σ : L2.St) (v u : Value), Inv X pins σ H s → RelV x v → RelV y u → wpAny (model X.prog X.w) X.A (f v u) (EP X pins σ Q) X.xe s
theorem op_w {X : Cx} {f : Value → Value → Sem Value} : OpR X f (wpO X f) := fun pins s σ _ _ _ v u _ I r1 r2 h => h pins s σ v u I r1 r2
theorem wpO_of {X : Cx} {f : Value → Value → Sem Value} {r : R2} {x y : V} {H : Hp} {Q : VK} (h : OpR X f r) (q : r x y H Q) : wpO X f x y H Q := fun pins s σ v u I r1 r2 => h pins s σ H x y v u Q I r1 r2 q

/-! ### a link: which names, where things stand -/
/-- the names by number -/
structure Nms where
  nm : Nat → Option Str
  gn : Nat → Option Str
  kn : Nat → Option Str
  cn : Nat → Option Str
  /-- the def that catches what a lambda raises; the scopes of defs with lambdas -/
  le : Option Str
  ls : List (Str × NameKind) → Bool
structure Link extends Nms where
  fa : Nat → Option Addr
  ca : Nat → Addr
  /-- the field of an error's class that bears a number -/
  cf : Nat → Str
  T : List (Addr × Str)

/-- what an error bears -/
def XP (L : Link) (c : Nat) (p : Option Int) (d : Option Addr) (H : Hp) : Prop := match p with
  | none => d = none
  | some i => ∃ a, d = some a ∧ H a = some (.xd [(L.cf c, .int i)])
/-- what is wanted of an outcome -/
def Good (L : Link) (K : PySem.W.Frag) (av hd : List Addr) (H : Hp) (W : XK) {α : Type} (r : R α) (k : α → Mem → Hp → Prop) : Prop := match r with
  | .ok a m => ∀ H', Gr av H H' → RM L.T K av hd H' m → k a m H'
  | .ex c p m => ∀ H' d, Gr av H H' → RM L.T K av hd H' m → XP L c p d H' → W (.ref (L.ca c)) d H'
  | .no => False
section
variable {L : Link} {K : PySem.W.Frag} {av hd : List Addr} {H H1 : Hp} {W : XK} {α β : Type}
theorem Good.imp {r : R α} {k k' : α → Mem → Hp → Prop} (g : Good L K av hd H W r k) (h : ∀ a m H', r = .ok a m → Gr av H H' → RM L.T K av hd H' m → k a m H' → k' a m H') : Good L K av hd H W r k' := by
  cases r with
  | ok a m => exact fun H' g1 g2 => h a m H' rfl g1 g2 (g H' g1 g2)
  | ex c p m => exact g
  | no => exact g
theorem Good.at (g : Gr av H H1) {r : R α} {k : α → Mem → Hp → Prop} (h : Good L K av hd H W r k) : Good L K av hd H1 W r k := by
  cases r with
  | ok a m => exact fun H' g1 g2 => h H' (g.trans g1) g2
  | ex c p m => exact fun H' d g1 g2 => h H' d (g.trans g1) g2
  | no => exact h
theorem Good.bind {r : R α} {f : α → Mem → R β} {k : β → Mem → Hp → Prop} (g : Good L K av hd H W (r.bind f) k) {k1 : α → Mem → Hp → Prop}
    (h : ∀ a m H1, r = .ok a m → Gr av H H1 → RM L.T K av hd H1 m → Good L K av hd H1 W (f a m) k → k1 a m H1) : Good L K av hd H W r k1 := by
  cases r with
  | ok a m => exact fun H' g1 g2 => h a m H' rfl g1 g2 (Good.at g1 g)
  | ex c p m => exact g
  | no => exact g
theorem Good.bd {r : R SV} {f : D → Mem → R SV} {k : SV → Mem → Hp → Prop} (g : Good L K av hd H W (bd r f) k) {k1 : SV → Mem → Hp → Prop}
    (h : ∀ v x m H1, r = .ok v m → opd v = some x → Gr av H H1 → RM L.T K av hd H1 m → Good L K av hd H1 W (f x m) k → k1 v m H1) : Good L K av hd H W r k1 := by
  refine Good.bind (f := fun v m => match opd v with | some x => f x m | none => .no) g fun v m H1 e g1 g2 g3 => ?_

  cases q : opd v with
  | none => rw [q] at g3; exact g3.elim
  | some x => rw [q] at g3; exact h v x m H1 e q g1 g2 g3
theorem Good.lift {o : Option SV} {m : Mem} {k : SV → Mem → Hp → Prop} (g : Good L K av hd H W (lift o m) k) : ∃ v, o = some v ∧ ∀ H', Gr av H H' → RM L.T K av hd H' m → k v m H' := by
  cases o with
  | none => exact g.elim
  | some v => exact ⟨v, rfl, g⟩
end

/-! ### an operand -/
def RO (K : PySem.W.Frag) (av hd : List Addr) (H : Hp) (x : V) : D → Prop
  | .list ds => ∃ a xs, x = .ref a ∧ a ∉ av ∧ H a = some (.lst xs) ∧ RpAll K hd H xs ds
  | y => Rp K hd H x y
section
variable {L : Link} {T : List (Addr × Str)} {K : PySem.W.Frag} {fa : Nat → Option Addr} {av hd : List Addr} {H H0 H1 : Hp} {m : Mem} {x y : V} {v : SV} {d : D}
theorem RO.of (sub : ∀ b ∈ av, b ∈ hd) (h : RV K fa av hd H0 H x v) (e : opd v = some d) : RO K av hd H x d := by
  cases v with
  | d z =>
    cases e
    have h : Rp K hd H x d := h
    cases d with
    | list ds =>
      obtain ⟨h1, h2⟩ := h
      cases h1 with
      | lst a b =>
        obtain ⟨na, ea⟩ := hide_some a
        exact ⟨_, _, rfl, fun z => na (sub _ z), ea, b, lay_list.mp h2⟩
    | _ => exact h
  | own ds =>
    cases e
    obtain ⟨a, xs, rfl, _, na, ea, r⟩ := h
    exact ⟨a, xs, rfl, fun z => na (sub _ z), ea, r.le (hide_sub fun b hb => List.mem_cons_of_mem _ hb)⟩
  | p ds =>
    cases e
    exact h
  | _ => cases e
theorem RO.gr (g : Gr av H H1) (sub : ∀ b ∈ av, b ∈ hd) (h : RO K av hd H x d) : RO K av hd H1 x d := by
  cases d with
  | list ds =>
    obtain ⟨a, xs, rfl, na, ea, r⟩ := h
    exact ⟨a, xs, rfl, na, g.st _ _ ea na noT_lst, r.le (hide_gr g sub)⟩
  | _ => exact Rp.le h (hide_gr g sub)
theorem RV.gr (g : Gr av H H1) (sub : ∀ b ∈ av, b ∈ hd) (h : RV K fa av hd H0 H x v) : RV K fa av hd H0 H1 x v := by
  cases v with
  | d z => exact Rp.le h (hide_gr g sub)
  | own ds =>
    obtain ⟨a, xs, rfl, n0, na, ea, r⟩ := h
    refine ⟨a, xs, rfl, n0, na, g.st _ _ ea (fun z => na (sub _ z)) noT_lst, r.le (hide_gr g fun b hb => List.mem_cons_of_mem _ (sub b hb))⟩
  | p ds =>
    obtain ⟨a, xs, rfl, na, ea, r⟩ := h
    exact ⟨a, xs, rfl, na, g.st _ _ ea na noT_lst, r.le (hide_gr g sub)⟩
  | h k => exact h
  | f n => exact h
  | s ns =>
    obtain ⟨a, rfl, h⟩ := h
    exact ⟨a, rfl, sqL_le (hide_gr g sub) h⟩
/-- as new since an elder heap -/
theorem RV.old (g : Gr av H0 H1) (h : RV K fa av hd H1 H x v) : RV K fa av hd H0 H x v := by
  cases v with
  | own ds =>
    obtain ⟨a, xs, e, n0, r⟩ := h
    exact ⟨a, xs, e, g.free n0, r⟩
  | _ => exact h
theorem RO.dp (h : RO K av hd H x d) : Dp K H x d := by
  cases d with
  | list ds =>
    obtain ⟨a, xs, rfl, na, ea, r⟩ := h
    exact .lst (.of ea) (dqAll_dp _ _ (dqAll_le hide_le _ _ r.1))
  | _ => exact dq_dp _ _ (dq_le hide_le _ _ (And.left h))
theorem RO.lay (h : RO K av hd H x d) : Lay d := by
  cases d with
  | list ds =>
    obtain ⟨a, xs, rfl, na, ea, r⟩ := h
    exact lay_list.mpr r.2
  | _ => exact And.right h
theorem RO.int {i : Int} (h : RO K av hd H x (.int i)) : x = .int i := by cases And.left h; rfl
theorem RO.bl {i : Bool} (h : RO K av hd H x (.bool i)) : x = .bl i := by cases And.left h; rfl
theorem RO.non (h : RO K av hd H x .none) : x = .non := by cases And.left h; rfl
theorem RO.str {i : Str} (h : RO K av hd H x (.str i)) : x = .str i := by cases And.left h; rfl
theorem RO.tup {ds : Ds} (h : RO K av hd H x (.tuple ds)) : ∃ a xs, x = .ref a ∧ SqT K (hide hd H) a xs ∧ RpAll K hd H xs ds := by
  obtain ⟨h1, h2⟩ := (show Rp K hd H x (.tuple ds) from h)
  cases h1 with
  | tup a b => exact ⟨_, _, rfl, a, b, lay_tup.mp h2⟩
theorem rp_int (i : Int) : Rp K hd H (.int i) (.int i) := ⟨.int i, rfl⟩
theorem rp_bl (i : Bool) : Rp K hd H (.bl i) (.bool i) := ⟨.bl i, rfl⟩
theorem rp_non : Rp K hd H .non .none := ⟨.non, rfl⟩
/-- a new list -/
theorem new_own {xs : List V} {ds : Ds} {p : Addr} (rm : RM T K av hd H m) (g : Gr av H0 H) (n : H p = none) (r : RpAll K hd H xs ds) : RV K fa av hd H0 (upd H p (.lst xs)) (.ref p) (.own ds) :=
  ⟨p, xs, rfl, g.free n, rm.nw n, upd_same, r.le (hide_new (Gr.new n) rm.sub n)⟩
theorem new_tup {xs : List V} {ds : Ds} {p : Addr} (rm : RM T K av hd H m) (n : H p = none) (r : RpAll K hd H xs ds) : RV K fa av hd H0 (upd H p (.tup xs)) (.ref p) (.d (.tuple ds)) := by
  refine ⟨.tup (.of ?_) (r.le (hide_gr (Gr.new n) rm.sub)).1, lay_tup.mpr r.2⟩
  rw [hide_out (rm.nw n)]; exact upd_same
end

/-! ### the operators -/
def opOf : Bo → Operator
  | .add => .Add | .sub => .Sub | .mul => .Mult | .fdiv => .FloorDiv | .mod => .Mod
theorem lay_app {a b : Str} (h1 : Lay (.str a)) (h2 : Lay (.str b)) : Lay (.str (a ++ b)) := by
  have h1 : ascS a = true := h1
  have h2 : ascS b = true := h2
  show ascS (a ++ b) = true
  unfold ascS at *
  show (a.cps ++ b.cps).toList.all _ = true
  rw [Array.toList_append, List.all_append, h1, h2]; rfl
def rBI (g : Int → Int → V) : R2 := fun x y H Q => ∃ (b : Bool) (j : Int), x = .bl b ∧ y = .int j ∧ Q (g (if b = true then 1 else 0) j) H
theorem op_addB {X : Cx} : OpR X (binaryOp .Add) (rBI fun i j => .int (i + j)) := by
  intro pins s σ H x y v u Q I rx ry h
  obtain ⟨b, j, rfl, rfl, q⟩ := h
  cases rx
  obtain ⟨t', rfl⟩ := ry
  exact IntBool.add_bool_int ⟨.int _, H, I.tok _, ⟨_, rfl⟩, q⟩
theorem op_subB {X : Cx} : OpR X (binaryOp .Sub) (rBI fun i j => .int (i - j)) := by
  intro pins s σ H x y v u Q I rx ry h
  obtain ⟨b, j, rfl, rfl, q⟩ := h
  cases rx
  obtain ⟨t', rfl⟩ := ry
  exact IntBool.sub_bool_int ⟨.int _, H, I.tok _, ⟨_, rfl⟩, q⟩
theorem lim_line {n : Nat} (h : n ≤ LIM) : n ≤ sizeLine := Nat.le_trans h (by decide)
section
variable {X : Cx} {L : Link} {T : List (Addr × Str)} {fa : Nat → Option Addr} {av hd : List Addr} {H H0 : Hp} {m : Mem} {x y : V} {v : SV} {d e : D} {Q : VK}
theorem bin_ok (o : Bo) (rm : RM T X.K av hd H m) (g0 : Gr av H0 H) (hx : RO X.K av hd H x d) (hy : RO X.K av hd H y e) (hv : binD o d e = some v)
    (q : ∀ H' z, Gr av H H' → RM T X.K av hd H' m → RV X.K fa av hd H0 H' z v → Q z H') : wpO X (binaryOp (opOf o)) x y H Q := by
  have gx := hx; have gy := hy
  unfold binD at hv
  split at hv
  · cases hv; cases hx.int; cases hy.int
    exact wpO_of op_add ⟨_, _, rfl, rfl, q H _ .refl rm (rp_int _)⟩
  · split at hv
    · cases hv; cases hx.str; cases hy.str
      exact wpO_of op_add_str ⟨_, _, rfl, rfl, lim_line (by assumption), q H _ .refl rm ⟨.str _, lay_app hx.lay hy.lay⟩⟩
    · cases hv
  · split at hv
    · cases hv
      rename_i as bs hl
      obtain ⟨a, xs, rfl, sx, rx⟩ := hx.tup
      obtain ⟨b, ys, rfl, sy, ry⟩ := hy.tup
      have lx := rx.1.len; have ly := ry.1.len
      refine wpO_of op_catA ⟨a, b, xs, ys, rfl, rfl, sqT_le hide_le sx, sqT_le hide_le sy, by rw [lx, ly]; exact lim_line hl, fun e => ?_, fun _ e => ?_, fun _ _ p n => ?_⟩
      · subst e
        have : as = [] := List.eq_nil_of_length_eq_zero (by rw [← lx]; rfl)
        subst this
        exact q H _ .refl rm ⟨.tup sy ry.1, lay_tup.mpr ry.2⟩
      · subst e
        have : bs = [] := List.eq_nil_of_length_eq_zero (by rw [← ly]; rfl)
        subst this
        rw [List.append_nil] at q
        exact q H _ .refl rm ⟨.tup sx rx.1, lay_tup.mpr rx.2⟩
      · exact q _ _ (Gr.new n) (rm.new n) (new_tup rm n ⟨rx.1.app ry.1, rx.2.app ry.2⟩)
    · cases hv
  · split at hv
    · cases hv
      rename_i as bs hl
      obtain ⟨a, xs, rfl, na, ea, rx⟩ := hx
      obtain ⟨b, ys, rfl, nb, eb, ry⟩ := hy
      have lx := rx.1.len; have ly := ry.1.len
      exact wpO_of op_cat ⟨a, b, xs, ys, rfl, rfl, ea, eb, by rw [lx, ly]; exact lim_line hl, fun p n => q _ _ (Gr.new n) (rm.new n) (new_own rm g0 n ⟨rx.1.app ry.1, rx.2.app ry.2⟩)⟩
    · cases hv
  · cases hv; cases hx.int; cases hy.int
    exact wpO_of op_sub ⟨_, _, rfl, rfl, q H _ .refl rm (rp_int _)⟩
  · split at hv
    · cases hv; cases hx.int; cases hy.int
      rename_i hs
      refine wpO_of op_mul ⟨_, _, rfl, rfl, ?_, q H _ .refl rm (rp_int _)⟩
      simp only [small, Bool.or_eq_true, Bool.and_eq_true, decide_eq_true_eq] at hs
      exact hs
    · cases hv
  · split at hv
    · cases hv
      rename_i as k hc
      obtain ⟨h1, h2, h3⟩ := hc
      obtain ⟨a, xs, rfl, na, ea, rx⟩ := hx
      cases hy.int
      have lx := rx.1.len
      refine wpO_of op_rep ⟨a, _, xs, rfl, rfl, ea, by omega, by omega, ?_, fun p n => q _ _ (Gr.new n) (rm.new n) (new_own rm g0 n ⟨rx.1.rep _, rx.2.of_sub fun d hd => ?_⟩)⟩
      · rw [lx]
        have : as.length * k.toNat ≤ 1000 * 1000 := Nat.mul_le_mul h3 (by omega)
        exact Nat.le_trans this (by decide)
      · obtain ⟨l, hl, hd⟩ := List.mem_flatten.mp hd
        rw [List.eq_of_mem_replicate hl] at hd; exact hd
    · cases hv
  · split at hv
    · cases hv
      rename_i as k hc
      obtain ⟨h1, h2, h3, h4⟩ := hc
      obtain ⟨a, xs, rfl, sx, rx⟩ := hx.tup
      cases hy.int
      have lx := rx.1.len
      refine wpO_of op_repT ⟨a, _, xs, rfl, rfl, sqT_le hide_le sx, fun z => ?_, h1, h2, by rw [lx]; exact h3, fun p n => q _ _ (Gr.new n) (rm.new n) (new_tup rm n ⟨rx.1.rep _, rx.2.of_sub fun d hd => ?_⟩)⟩
      · rw [z] at lx
        exact h4 (List.eq_nil_of_length_eq_zero lx.symm)
      · obtain ⟨l, hl, hd⟩ := List.mem_flatten.mp hd
        rw [List.eq_of_mem_replicate hl] at hd; exact hd
    · cases hv
  · split at hv
    · cases hv; cases hx.int; cases hy.int
      exact wpO_of op_fdiv ⟨_, _, rfl, rfl, by assumption, q H _ .refl rm (rp_int _)⟩
    · cases hv
  · split at hv
    · cases hv; cases hx.int; cases hy.int
      exact wpO_of op_mod ⟨_, _, rfl, rfl, by assumption, q H _ .refl rm (rp_int _)⟩
    · cases hv
  · cases hv; cases hx.bl; cases hy.int
    exact wpO_of op_addB ⟨_, _, rfl, rfl, q H _ .refl rm (rp_int _)⟩
  · cases hv; cases hx.bl; cases hy.int
    exact wpO_of op_subB ⟨_, _, rfl, rfl, q H _ .refl rm (rp_int _)⟩
  · cases hv
end
end Tn

set_option maxRecDepth 100000
set_option maxHeartbeats 1000000
/-! Tn4: comparisons, indices, slices by values. -/
namespace Tn
open PySem PySem.Spec PyProof.Rows L2

def coOf : Co → CmpOp
  | .eq => .Eq | .ne => .NotEq | .lt => .Lt | .le => .LtE | .gt => .Gt | .ge => .GtE | .isin => .In | .notin => .NotIn
section
variable {X : Cx} {L : Link} {T : List (Addr × Str)} {K : PySem.W.Frag} {fa : Nat → Option Addr} {av hd : List Addr} {H H0 : Hp} {m : Mem} {x y : V} {v : SV} {d e : D} {Q : VK}
theorem flat_of (h : Dp K H x d) (f : isFlat d = true) : flatV x = true := by
  cases h <;> first | rfl | (simp [isFlat] at f)
theorem eqV_of {H1 H2 : Hp} (h : Dp K H1 x d) (h' : Dp K H2 y e) (f : isFlat d = true) (f' : isFlat e = true) : eqV x y = PyData.eqv d e := by
  cases h <;> cases h' <;> first | rfl | (simp [isFlat] at f f'; done) | (simp [eqV, PyData.eqv]; done)
theorem inV_of {H1 : Hp} (h : Dp K H x d) (f : isFlat d = true) : ∀ {xs : List V} {ds : Ds}, DpAll K H1 xs ds → ds.all isFlat = true → xs.all flatV = true ∧ inV x xs = ds.any fun z => PyData.eqv z d
  | _, [], .nil, _ => ⟨rfl, rfl⟩
  | _, z :: ds, .cons h1 h2, fs => by
    simp only [List.all_cons, Bool.and_eq_true] at fs
    obtain ⟨i1, i2⟩ := inV_of h f h2 fs.2
    refine ⟨by simp only [List.all_cons, Bool.and_eq_true]; exact ⟨flat_of h1 fs.1, i1⟩, ?_⟩
    unfold inV at i2 ⊢
    rw [List.any_cons, List.any_cons, i2, eqV_of h1 h fs.1 f]
theorem shaped_of (h : Lay d) (k : d.depth ≤ 64) : SeqAt.shaped d = true := by
  unfold SeqAt.shaped
  rw [Bool.and_eq_true, decide_eq_true_eq]
  exact ⟨h.can, k⟩
theorem cmp_ok (o : Co) (hu : X.A.units + 65 < cLine) (hx : RO X.K av hd H x d) (hy : RO X.K av hd H y e) {b : Bool} (hv : cmpD o d e = some b) (q : Q (.bl b) H) : wpO X (compareOp (coOf o)) x y H Q := by
  cases o with
  | eq =>
    simp only [cmpD] at hv
    split at hv
    · cases hv
      rename_i hk
      intro pins s σ v u I r1 r2
      obtain ⟨as, p1⟩ := Dp.reads I d x v hx.dp r1
      obtain ⟨bs, p2⟩ := Dp.reads I e y u hy.dp r2
      have hk : min d.depth e.depth ≤ 64 := of_decide_eq_true hk
      exact SeqAt.compareEq_reads p1 p2 hx.lay.can hy.lay.can (by omega) ⟨.bl _, H, I, rfl, q⟩
    · cases hv
  | ne =>
    simp only [cmpD] at hv
    split at hv
    · cases hv
      rename_i hk
      intro pins s σ v u I r1 r2
      obtain ⟨as, p1⟩ := Dp.reads I d x v hx.dp r1
      obtain ⟨bs, p2⟩ := Dp.reads I e y u hy.dp r2
      have hk : min d.depth e.depth ≤ 64 := of_decide_eq_true hk
      exact SeqAt.compareNe_reads p1 p2 hx.lay.can hy.lay.can (by omega) ⟨.bl _, H, I, rfl, q⟩
    · cases hv
  | lt =>
    simp only [cmpD] at hv
    split at hv
    · cases hv; cases hx.int; cases hy.int
      exact wpO_of op_lt ⟨_, _, rfl, rfl, q⟩
    · cases hv
  | le =>
    simp only [cmpD] at hv
    split at hv
    · cases hv; cases hx.int; cases hy.int
      exact wpO_of op_le ⟨_, _, rfl, rfl, q⟩
    · cases hv
  | gt =>
    simp only [cmpD] at hv
    split at hv
    · cases hv; cases hx.int; cases hy.int
      exact wpO_of op_gt ⟨_, _, rfl, rfl, q⟩
    · cases hv
  | ge =>
    simp only [cmpD] at hv
    split at hv
    · cases hv; cases hx.int; cases hy.int
      exact wpO_of op_ge ⟨_, _, rfl, rfl, q⟩
    · cases hv
  | isin =>
    simp only [cmpD, inD] at hv
    split at hv
    · split at hv
      · cases hv
        rename_i ds hk
        exact wpO_of (op_inD hu) ⟨d, ds, hx.dp, hy.dp, shaped_of hx.lay hk.1, shaped_of hy.lay hk.2, q⟩
      · cases hv
    · split at hv
      · cases hv
        rename_i ds hk
        rw [Bool.and_eq_true] at hk
        obtain ⟨a, xs, rfl, sx, rx⟩ := hy.tup
        obtain ⟨f1, f2⟩ := inV_of hx.dp hk.1 (dqAll_dp _ _ rx.1) hk.2
        refine wpO_of op_in_seq ⟨a, xs, rfl, .inr (sqT_le hide_le sx), flat_of hx.dp hk.1, f1, ?_⟩
        rw [if_neg Bool.false_ne_true, f2]; exact q
      · cases hv
    · cases hv
  | notin =>
    simp only [cmpD, inD] at hv
    split at hv
    · split at hv
      · cases hv
        rename_i ds hk
        exact wpO_of (op_notInD hu) ⟨d, ds, hx.dp, hy.dp, shaped_of hx.lay hk.1, shaped_of hy.lay hk.2, q⟩
      · cases hv
    · split at hv
      · cases hv
        rename_i ds hk
        rw [Bool.and_eq_true] at hk
        obtain ⟨a, xs, rfl, sx, rx⟩ := hy.tup
        obtain ⟨f1, f2⟩ := inV_of hx.dp hk.1 (dqAll_dp _ _ rx.1) hk.2
        refine wpO_of op_notIn_seq ⟨a, xs, rfl, .inr (sqT_le hide_le sx), flat_of hx.dp hk.1, f1, ?_⟩
        rw [if_pos rfl, f2]; exact q
      · cases hv
    · cases hv
/-! ### an index -/
theorem at_eq {α : Type} (xs : List α) (i : Int) : atI xs i = at_ xs i := by
  unfold atI ixN at_
  by_cases h : 0 ≤ i
  · rw [if_pos h, if_pos h]
    by_cases h2 : i < xs.length
    · rw [if_pos h2]; rfl
    · rw [if_neg h2]
      exact (List.getElem?_eq_none (by omega)).symm
  · rw [if_neg h, if_neg h]
    by_cases h2 : -(xs.length : Int) ≤ i
    · rw [if_pos h2, if_pos (by omega)]
      show xs[(i + (xs.length : Int)).toNat]? = _
      rw [Int.add_comm]
    · rw [if_neg h2, if_neg (by omega)]; rfl
theorem at_get {ds : Ds} {xs : List V} {i : Int} {d : D} (h : DqAll K H xs ds) (e : at_ ds i = some d) : ∃ v, at_ xs i = some v ∧ Dq K H v d := by
  unfold at_ at e ⊢
  rw [h.len]
  by_cases h1 : 0 ≤ i
  · rw [if_pos h1] at e ⊢
    exact h.get e
  · rw [if_neg h1] at e ⊢
    by_cases h2 : 0 ≤ (ds.length : Int) + i
    · rw [if_pos h2] at e ⊢
      exact h.get e
    · rw [if_neg h2] at e; cases e
theorem at_mem {α : Type} {xs : List α} {i : Int} {d : α} (e : at_ xs i = some d) : d ∈ xs := by
  unfold at_ at e
  split at e
  · exact List.mem_of_getElem? e
  · split at e
    · exact List.mem_of_getElem? e
    · cases e
theorem ix_ok (hx : RO X.K av hd H x d) (hy : RO X.K av hd H y e) {z : D} (hv : idxD d e = some z) (q : ∀ w, Rp X.K hd H w z → Q w H) : rIx X.K x y H Q := by
  unfold idxD at hv
  split at hv
  · cases hy.int
    obtain ⟨a, xs, rfl, sx, rx⟩ := hx.tup
    obtain ⟨w, e1, e2⟩ := at_get rx.1 hv
    exact .inr (.inl ⟨a, xs, _, w, rfl, rfl, sqT_le hide_le sx, by rw [at_eq]; exact e1, q w ⟨e2, layAll_iff.mp rx.2 _ (at_mem hv)⟩⟩)
  · cases hy.int
    obtain ⟨a, xs, rfl, na, ea, rx⟩ := hx
    obtain ⟨w, e1, e2⟩ := at_get rx.1 hv
    exact .inl ⟨a, xs, _, w, rfl, rfl, .of ea, by rw [at_eq]; exact e1, q w ⟨e2, layAll_iff.mp rx.2 _ (at_mem hv)⟩⟩
  · cases hy.int
    split at hv
    · rename_i z i hl
      cases ec : at_ z.cps.toList i with
      | none => rw [ec] at hv; cases hv
      | some c =>
        rw [ec] at hv
        cases hv
        cases hx.str
        refine .inr (.inr ⟨z, i, c, rfl, rfl, lim_line hl, by rw [at_eq]; exact ec, q _ ⟨.str _, ?_⟩⟩)
        have ha : ascS z = true := hx.lay
        unfold ascS at ha
        have hc := List.all_eq_true.mp ha c (at_mem ec)
        show ascS ⟨#[c]⟩ = true
        unfold ascS
        simpa using hc
    · cases hv
  · cases hv
end
end Tn

set_option maxRecDepth 100000
set_option maxHeartbeats 1000000
/-! Tn5: a tuple's slice that is the whole of it; a tuple the other way round. -/
namespace Tn
open PySem PySem.Spec PyProof.Rows L2
section
variable {prog : Program} {w : World} {A : Around} {E : Value → Shared → Prop} {s : Shared}
theorem app_rev {sl : Addr} {vl vu : Value} {k : Tok} {n : Nat} {Q : Int × Int × Nat → Shared → Prop} (hs : s.heap.IsSliceOf sl vl vu (.int (-1) k)) (pl : IsPart vl none) (pu : IsPart vu none)
    (h : Q ((n : Int) - 1, -1, n) s) : wpAny (model prog w) A (Builtin.Slice.sliceApplied (.ref sl) (pure (n : Int))) Q E s := by
  obtain ⟨o, ho, _, hds⟩ := id hs
  unfold Builtin.Slice.sliceApplied
  unfold Builtin.Slice.sliceFields
  refine wpAny_bind (wpAny_bind (wpAny_field ho hds (x := vl) rfl ?_))
  refine wpAny_bind (wpAny_field ho hds (x := vu) rfl ?_)
  refine wpAny_bind (wpAny_field ho hds (x := .int (-1) k) rfl (wpAny_pure ?_))
  refine wpAny_bind (HT.slicePart_ (.int (-1) k) ?_)
  show wpAny _ _ (if ((-1 : Int) == 0) = true then _ else _) _ _ s
  rw [if_neg (by decide)]
  refine wpAny_bind (HT.slicePart_ pl (wpAny_bind (HT.slicePart_ pu (wpAny_bind (wpAny_pure ?_)))))
  have e : Builtin.Slice.slicePlaces ((n : Int) - 1) (-1) (-1) = n := by
    unfold Builtin.Slice.slicePlaces
    rw [if_neg (by omega), Int.neg_neg, Int.ediv_one]
    split <;> omega
  show wpAny _ _ (pure ((n : Int) - 1, (-1 : Int), Builtin.Slice.slicePlaces ((n : Int) - 1) (-1) (-1))) _ _ s
  rw [e]
  exact wpAny_pure h
theorem fm_congr {α β : Type} {f g : α → Option β} : ∀ {l : List α}, (∀ a ∈ l, f a = g a) → l.filterMap f = l.filterMap g
  | [], _ => rfl
  | a :: r, h => by rw [List.filterMap_cons, List.filterMap_cons, h a List.mem_cons_self, fm_congr fun b hb => h b (List.mem_cons_of_mem _ hb)]
theorem pick_rev (xs : Array Value) : ((List.range xs.size).filterMap fun (k : Nat) => xs[(((xs.size : Int) - 1) + (k : Int) * (-1)).toNat]?).toArray = xs.toList.reverse.toArray := by
  congr 1
  have e : ∀ k ∈ List.range xs.size, xs[(((xs.size : Int) - 1) + (k : Int) * (-1)).toNat]? = some (xs.toList.reverse.getD k .none) := fun k hk => by
    have hk : k < xs.size := List.mem_range.mp hk
    have e1 : (((xs.size : Int) - 1) + (k : Int) * (-1)).toNat = xs.size - 1 - k := by omega
    have hl : k < xs.toList.reverse.length := by simpa using hk
    rw [e1, Array.getElem?_eq_getElem (by omega), List.getD_eq_getElem?_getD, List.getElem?_eq_getElem hl, List.getElem_reverse]
    simp
  rw [fm_congr e]
  have e3 : (fun k => some (xs.toList.reverse.getD k Value.none)) = some ∘ fun k => xs.toList.reverse.getD k Value.none := rfl
  rw [e3, List.filterMap_eq_map]
  refine List.ext_getElem? fun k => ?_
  rw [List.getElem?_map]
  by_cases hk : k < xs.size
  · rw [List.getElem?_range hk]
    have hl : k < xs.toList.reverse.length := by simpa using hk
    show some (xs.toList.reverse.getD k Value.none) = _
    rw [List.getD_eq_getElem?_getD, List.getElem?_eq_getElem hl]; rfl
  · rw [List.getElem?_eq_none (by simpa using hk), List.getElem?_eq_none (by simpa using hk)]; rfl
theorem tup_get {t sl : Addr} {its : Array Value} {Q : Value → Shared → Prop} {lo step : Int} {n : Nat} (ht : IsTup s.heap t its) (hT : s.TypeIs (.ref sl) "slice")
    (hap : ∀ {Q' : Int × Int × Nat → Shared → Prop}, Q' (lo, step, n) s → wpAny (model prog w) A.in1 (Builtin.Slice.sliceApplied (.ref sl) (pure (its.size : Int))) Q' (fun e s' => E e s') s)
    (hz : its.size ≤ sizeLine) (hn : n ≤ its.size)
    (h1 : (lo == 0 && step == 1 && n == its.size) = true → Q (.ref t) s)
    (h2 : (lo == 0 && step == 1 && n == its.size) = false → Q (.ref s.heap.objs.size) { s with heap := s.heap.push { cls := .type "tuple", data := .seq ((List.range n).filterMap fun (k : Nat) => its[(lo + (k : Int) * step).toNat]?).toArray } }) :
    wpAny (model prog w) A (getItem (.ref t) (.ref sl)) Q E s := by
  have hsz : sizeOk (.seq ((List.range n).filterMap fun (k : Nat) => its[(lo + (k : Int) * step).toNat]?).toArray) := by
    show ((List.range n).filterMap fun (k : Nat) => its[(lo + (k : Int) * step).toNat]?).toArray.size ≤ sizeLine
    rw [List.size_toArray]
    exact Nat.le_trans (List.length_filterMap_le _ _) (by rw [List.length_range]; omega)
  unfold getItem
  try with_reducible refine wpAny_holding ?_
  first | refine wpAny_bind (wpAny_pure ?_) | skip
  refine wpAny_bind (wpAny_sequenceKey ht.typeIs (by decide) ?_)
  refine wpAny_bind (wpAny_callSpecial?_slot (name := Str.ofString "__getitem__") ht.typeIs PyProof.Rows.slot_tuple_getitem ?_)
  refine wpAny_call_entry PyProof.Rows.slot_tuple_getitem ht.typeIs entry_tuple_getitem ?_ (args_tuple_getitem _ _)
  show wpAny _ _ (Builtin.Tuple.tupleItemsOf (.ref t) >>= _) _ _ s
  refine wpAny_bind (tupleItemsOf_ ht ?_)
  refine wpAny_bind (wpAny_typeOf hT ?_)
  rw [if_pos (by decide)]
  refine wpAny_bind (hap ?_)
  show wpAny _ _ (if (lo == 0 && step == 1 && n == its.size) = true then _ else _) _ _ s
  cases hc : (lo == 0 && step == 1 && n == its.size) with
  | true =>
    rw [if_pos rfl]
    unfold Builtin.Tuple.tupleIsExact
    refine wpAny_bind (wpAny_bind (wpAny_typeOf ht.typeIs (wpAny_pure ?_)))
    rw [if_pos (by decide)]
    exact wpAny_bind (wpAny_rule (wpAny_pure ⟨_, rfl, wpAny_pure (h1 hc)⟩))
  | false =>
    rw [if_neg Bool.false_ne_true]
    have q := h2 hc
    first
      | exact wpAny_bind (m := Builtin.Tuple.tupleExact _) (wpAny_newObj_type (wpAny_pure ⟨_, rfl, wpAny_pure q⟩) hsz)
      | exact wpAny_bind (wpAny_bind (m := Builtin.Tuple.tupleExact _) (wpAny_newObj_type (wpAny_pure ⟨_, rfl, wpAny_pure q⟩) hsz))
end
end Tn

set_option maxRecDepth 100000
set_option maxHeartbeats 1000000
/-! Tn6: slices and the other way round, by values. -/
namespace Tn
open PySem PySem.Spec PyProof.Rows L2
section
variable {X : Cx} {L : Link} {T : List (Addr × Str)} {K : PySem.W.Frag} {fa : Nat → Option Addr} {av hd : List Addr} {H H0 : Hp} {m : Mem} {x y : V} {v : SV} {d e : D} {Q : VK}
/-- a slice of a tuple, whole or not -/
def rSlA (K : PySem.W.Frag) : V → Option Int → Option Int → Hp → VK → Prop := fun x lo hi H Q => ∃ a xs, x = .ref a ∧ SqT K H a xs ∧ (cutV xs lo hi = xs → Q (.ref a) H) ∧
  ∀ p, H p = none → Q (.ref p) (upd H p (.tup (cutV xs lo hi)))
theorem sl_tupA : SlR X (rSlA X.K) := by
  intro pins s σ H x v vl vu lo hi sl Q I rx hs pl pu h
  obtain ⟨a, xs, ex, hx, q1, q2⟩ := h
  subst ex
  by_cases hw : HT.sIx xs.length 0 lo = 0 ∧ HT.sIx xs.length xs.length hi = xs.length
  · cases rx
    obtain ⟨its, r, ht, hz⟩ := I.tuple hx
    have hlen : its.toArray.size = xs.length := by rw [List.size_toArray]; exact r.length.symm
    refine ⟨"tuple", _, PyProof.Rows.slot_tuple_getitem.lookup, ht.typeIs, ?_⟩
    have hT : s.TypeIs (.ref sl) "slice" := by
      obtain ⟨o, ho, hc, _⟩ := id hs
      exact ⟨o, ho, hc⟩
    have ecut : cutV xs lo hi = xs := by
      unfold cutV
      rw [hw.1, hw.2, List.drop_zero, Nat.sub_zero, List.take_length]
    refine tup_get (lo := 0) (step := 1) (n := its.toArray.size) ht hT (fun {Q'} hq => ?_) (by rw [hlen]; exact hz) (Nat.le_refl _) (fun _ => ⟨.ref a, H, I, rfl, q1 ecut⟩) fun hf => ?_
    · refine HT.sliceApplied_gen hs pl pu ?_
      rw [hlen, hw.1, hw.2]
      rw [hlen] at hq
      exact hq
    · simp at hf
  · exact sl_tup pins s σ H _ v vl vu lo hi sl Q I rx hs pl pu ⟨a, xs, rfl, hx, hw, q2⟩
/-- v[::-1] by values -/
def wpRev (X : Cx) : V → Hp → VK → Prop := fun x H Q => ∀ (pins : List (Addr × Obj)) (s : Shared) (σ : L2.St) (v vl vu : Value) (k : Tok) (sl : Addr), Inv X pins σ H s → RelV x v → s.heap.IsSliceOf sl vl vu (.int (-1) k) → IsPart vl none → IsPart vu none →
  ∃ U id, typeLookup (.type U) "__getitem__" = pure (some (.builtin id)) ∧ s.TypeIs v U ∧ wpAny (model X.prog X.w) X.A (getItem v (.ref sl)) (EP X pins σ Q) X.xe s
theorem revl_ok {a : Addr} {xs : List V} (hx : SqL X.K H a xs) (q : ∀ p, H p = none → Q (.ref p) (upd H p (.lst xs.reverse))) : wpRev X (.ref a) H Q := by
  intro pins s σ v vl vu k sl I rx hs pl pu
  cases rx
  obtain ⟨its, r, ht, hz⟩ := I.list hx
  have hlen := r.length
  refine ⟨"list", _, PySem.slot_list_getitem.lookup, ht.isList.typeIs, ?_⟩
  refine wpAny_getItem_list_slice ht.isList hs pl pu (.int (-1) k) (by decide) ?_ (by rw [List.size_toArray]; omega)
  rw [PySem.W.krv_pick]
  have J := I.laid (t' := s.toks) (a := s.heap.objs.size) (o := .lst xs.reverse) (fun b ob q => Heap.get?_push_of_some { cls := .type "list", data := .seq its.reverse.toArray } q) (Nat.le_refl _) ⟨by rw [List.length_reverse]; exact hz, _, 0, r.reverse, Heap.get?_push_size _ rfl⟩
  exact ⟨.ref _, _, J, rfl, q _ (I.hok.fresh (Nat.le_refl _))⟩
theorem revt_ok {a : Addr} {xs : List V} (hx : SqT X.K H a xs) (q : ∀ p, H p = none → Q (.ref p) (upd H p (.tup xs.reverse))) : wpRev X (.ref a) H Q := by
  intro pins s σ v vl vu k sl I rx hs pl pu
  cases rx
  obtain ⟨its, r, ht, hz⟩ := I.tuple hx
  have hlen := r.length
  refine ⟨"tuple", _, PyProof.Rows.slot_tuple_getitem.lookup, ht.typeIs, ?_⟩
  have hT : s.TypeIs (.ref sl) "slice" := by
    obtain ⟨o, ho, hc, _⟩ := id hs
    exact ⟨o, ho, hc⟩
  refine tup_get (lo := (its.toArray.size : Int) - 1) (step := -1) (n := its.toArray.size) ht hT (fun {Q'} hq => app_rev hs pl pu hq) (by rw [List.size_toArray]; omega) (Nat.le_refl _) (fun hf => ?_) fun _ => ?_
  · simp at hf
  · rw [pick_rev]
    have J := I.laid (t' := s.toks) (a := s.heap.objs.size) (o := .tup xs.reverse) (fun b ob q => Heap.get?_push_of_some { cls := .type "tuple", data := .seq its.toArray.toList.reverse.toArray } q) (Nat.le_refl _) ⟨by rw [List.length_reverse]; exact hz, _, r.reverse, IsTup.new _ _⟩
    exact ⟨.ref _, _, J, rfl, q _ (I.hok.fresh (Nat.le_refl _))⟩
theorem pe_rev {a : Expr} {te : TE} {k : Nat} {p1 p2 p3 pos : Pos} (he : PE X a te) : PE X (.Subscript a (.Slice none none (some (.UnaryOp .USub (.Constant (.int 1) k p1) p2)) p3) pos) (fun σ H Q => te σ H fun x H1 => wpRev X x H1 Q) := by
  refine ⟨fun pins s σ H Q I h => ?_⟩
  refine Subscript_ (thn (he.run pins s σ H _ I h) fun v s1 ⟨x, H1, I1, r1, q1⟩ => ?_)
  refine wpAny_Slice (thn (po_none.run pins s1 σ H1 (fun o H2 => o = none ∧ H2 = H1) I1 ⟨rfl, rfl⟩) fun vl s2 w2 => ?_)
  obtain ⟨l, H2, I2, pl, el, e2⟩ := w2
  subst el e2
  refine thn (po_none.run pins s2 σ H2 (fun o H3 => o = none ∧ H3 = H2) I2 ⟨rfl, rfl⟩) fun vu s3 w3 => ?_
  obtain ⟨u, H3, I3, pu, eu, e3⟩ := w3
  subst eu e3
  have hst : PE X (.UnaryOp .USub (.Constant (.int 1) k p1) p2) (tUn (rU fun i => .int (-i)) (tC (.int 1))) := pe_un un_neg pe_int
  refine thn (hst.run pins s3 σ H3 (fun x H4 => x = .int (-1) ∧ H4 = H3) I3 ⟨1, rfl, rfl, rfl⟩) fun vs s4 w4 => ?_
  obtain ⟨o, H4, I4, rs, eo, e4⟩ := w4
  subst eo e4
  obtain ⟨tk, rfl⟩ := rs
  have I5 : Inv X pins σ H4 { s4 with heap := s4.heap.push { cls := .type "slice", data := .fields #[vl, vu, .int (-1) tk] } } := I4.kept (t' := s4.toks) fun b ob q => Heap.get?_push_of_some _ q
  obtain ⟨U, id, lk, ty, run⟩ := q1 pins _ σ v vl vu tk s4.heap.objs.size I5 r1 (Heap.IsSliceOf.new _ vl vu (.int (-1) tk)) pl pu
  exact tail_any (ops := [v, .ref s4.heap.objs.size]) ty lk run (by with_unfolding_all rfl)
end
end Tn

set_option maxRecDepth 100000
set_option maxHeartbeats 2000000
/-! TnS: sorting tuples of ints of any lengths; sets of them. -/
namespace Tn
open PySem PySem.Spec PyProof.Rows L2
/-! ### the order -/
theorem lexLt_asym : ∀ {x y : List Int}, lexLt x y = true → lexLt y x = false
  | [], [], h => rfl
  | [], _ :: _, _ => rfl
  | _ :: _, [], h => by cases h
  | a :: x, b :: y, h => by
    unfold lexLt at h ⊢
    by_cases e : a = b
    · rw [if_pos e] at h
      rw [if_pos e.symm]
      exact lexLt_asym h
    · rw [if_neg e] at h
      rw [if_neg fun z => e z.symm]
      have := of_decide_eq_true h
      exact decide_eq_false (by omega)
theorem lexLt_tr : ∀ {x y z : List Int}, lexLt y x = false → lexLt z y = false → lexLt z x = false
  | [], _, [], _, _ => rfl
  | [], y, c :: z, h1, h2 => by
    cases y with
    | nil => rfl
    | cons => rfl
  | a :: x, [], z, h1, h2 => by
    cases h1
  | a :: x, b :: y, [], h1, h2 => by cases h2
  | a :: x, b :: y, c :: z, h1, h2 => by
    unfold lexLt at h1 h2 ⊢
    by_cases e : b = a
    · rw [if_pos e] at h1
      by_cases e2 : c = b
      · rw [if_pos e2] at h2
        rw [if_pos (e2.trans e)]
        exact lexLt_tr h1 h2
      · rw [if_neg e2] at h2
        rw [if_neg fun q => e2 (q.trans e.symm), ← e]
        exact h2
    · rw [if_neg e] at h1
      have k1 := of_decide_eq_false h1
      by_cases e2 : c = b
      · rw [if_neg fun q => e (e2.symm.trans q), e2]
        exact h1
      · rw [if_neg e2] at h2
        have k2 := of_decide_eq_false h2
        rw [if_neg fun q => by omega]
        exact decide_eq_false (by omega)
theorem lexLt_eq : ∀ {x y : List Int}, lexLt x y = false → lexLt y x = false → x = y
  | [], [], _, _ => rfl
  | [], _ :: _, h, _ => by cases h
  | _ :: _, [], _, h => by cases h
  | a :: x, b :: y, h1, h2 => by
    unfold lexLt at h1 h2
    by_cases e : a = b
    · rw [if_pos e] at h1
      rw [if_pos e.symm] at h2
      rw [e, lexLt_eq h1 h2]
    · rw [if_neg e] at h1
      rw [if_neg fun z => e z.symm] at h2
      have := of_decide_eq_false h1
      have := of_decide_eq_false h2
      omega
abbrev SrT (l : List (List Int)) : Prop := l.Pairwise fun x y => lexLt y x = false
theorem insT_perm (x : List Int) : ∀ l : List (List Int), (insT x l).Perm (x :: l)
  | [] => .refl _
  | y :: r => by
    unfold insT
    split
    · exact ((insT_perm x r).cons y).trans (List.Perm.swap ..)
    · exact .refl _
theorem insT_sr (x : List Int) : ∀ {l : List (List Int)}, SrT l → SrT (insT x l)
  | [], _ => List.pairwise_singleton _ _
  | y :: r, h => by
    have h := List.pairwise_cons.mp h
    unfold insT
    split
    · rename_i c
      refine List.pairwise_cons.mpr ⟨fun z hz => ?_, insT_sr x h.2⟩
      rcases List.mem_cons.mp ((insT_perm x r).mem_iff.mp hz) with e | hz
      · rw [e]; exact lexLt_asym c
      · exact h.1 z hz
    · rename_i c
      have c : lexLt y x = false := by simpa using c
      refine List.pairwise_cons.mpr ⟨fun z hz => ?_, List.pairwise_cons.mpr h⟩
      rcases List.mem_cons.mp hz with e | hz
      · rw [e]; exact c
      · exact lexLt_tr c (h.1 z hz)
theorem sortT_perm : ∀ l : List (List Int), (sortT l).Perm l
  | [] => .refl _
  | x :: r => (insT_perm x _).trans ((sortT_perm r).cons x)
theorem sortT_sr : ∀ l : List (List Int), SrT (sortT l)
  | [] => List.Pairwise.nil
  | x :: r => insT_sr x (sortT_sr r)
theorem srT_uniq : ∀ {l m : List (List Int)}, SrT l → SrT m → l.Perm m → l = m
  | [], m, _, _, p => (List.Perm.nil_eq p)
  | x :: l, [], _, _, p => by
    have := p.length_eq
    simp at this
  | x :: l, y :: m, h1, h2, p => by
    have a := List.pairwise_cons.mp h1
    have b := List.pairwise_cons.mp h2
    have e : x = y := by
      rcases List.mem_cons.mp (p.mem_iff.mp List.mem_cons_self) with e | hx
      · exact e
      · rcases List.mem_cons.mp (p.mem_iff.mpr List.mem_cons_self) with e | hy
        · exact e.symm
        · exact (lexLt_eq (a.1 y hy) (b.1 x hx)).symm
    subst e
    rw [srT_uniq a.2 b.2 p.cons_inv]
theorem dedT_mem : ∀ {l : List (List Int)} {x : List Int}, x ∈ dedT l ↔ x ∈ l
  | [], x => by simp [dedT]
  | y :: r, x => by
    unfold dedT
    split
    · rename_i h
      rw [dedT_mem, List.mem_cons]
      exact ⟨.inr, fun z => z.elim (fun e => by rw [e]; exact h) id⟩
    · rw [List.mem_cons, List.mem_cons, dedT_mem]
theorem dedT_nd : ∀ l : List (List Int), (dedT l).Nodup
  | [] => List.nodup_nil
  | y :: r => by
    unfold dedT
    split
    · exact dedT_nd r
    · rename_i h
      exact List.nodup_cons.mpr ⟨fun z => h (dedT_mem.mp z), dedT_nd r⟩
/-! ### how the machine compares -/
def lexF : List Int → List Int → Bool → Bool
  | x :: xs, y :: ys, f => if x = y then lexF xs ys f else decide (x < y)
  | _, _, f => f
theorem lexF_lt : ∀ x y : List Int, lexF x y (decide (x.length < y.length)) = lexLt x y
  | [], [] => rfl
  | [], _ :: _ => by simp [lexF, lexLt]
  | _ :: _, [] => by simp [lexF, lexLt]
  | a :: x, b :: y => by
    unfold lexF lexLt
    have : decide ((a :: x).length < (b :: y).length) = decide (x.length < y.length) := by simp
    rw [this, lexF_lt x y]
section
variable {prog : Program} {w : World} {A : Around} {E : Value → Shared → Prop} {s : Shared}
theorem lex_run {fin : Bool} {Q : Bool → Shared → Prop} : ∀ {ns ms : List Int} {us vs : List Value} (i : Nat), IntsAre us ns → IntsAre vs ms → Q (lexF ns ms fin) s → PySem.W.KatLex prog w A true fin Q (us.zip vs) i s
  | [], _, us, vs, i, h1, h2, q => by
    cases h1
    exact PySem.W.kat_nil q
  | _ :: _, [], us, vs, i, h1, h2, q => by
    cases h2
    rw [List.zip_nil_right]
    exact PySem.W.kat_nil q
  | n :: ns, m :: ms, us, vs, i, h1, h2, q => by
    cases h1 with
    | cons _ _ t1 =>
    cases h2 with
    | cons _ _ t2 =>
    unfold lexF at q
    refine PySem.W.kat_cons (SeqAt.EqAt.int_int n _ m _ prog w _ _ ?_)
    refine PySem.W.kat_go (fun e => ?_) (fun e => ?_)
    · have e : n = m := by simpa using e
      rw [if_pos e] at q
      exact PySem.W.kat_yes (lex_run (i + 1) t1 t2 q)
    · have e : ¬ n = m := by simpa using e
      rw [if_neg e] at q
      refine PySem.W.kat_no ?_
      cases i with
      | zero => exact oneLt_int q
      | succ i => exact PySem.W.kat_one _ _ (PyProof.Rows.lt_int q)
abbrev ltT (k : Value → List Int) : Value → Value → Bool := fun v u => lexLt (k v) (k u)
theorem swoT (k : Value → List Int) : SrtO.Swo (ltT k) := ⟨fun _ _ h => lexLt_asym h, fun _ _ _ h1 h2 => lexLt_tr h1 h2⟩
theorem cmpT {vs : List Value} {k : Value → List Int} (hp : ∀ v ∈ vs, TS.TupInts s.heap v (k v)) : SrtO.Cmp prog w A s (tuples' true) (fun p => p.1 ∈ vs) (SrtO.lt2 (ltT k)) := by
  intro p q m1 m2
  obtain ⟨a, xs, e1, ⟨o, ho, hc, n, hd⟩, i1⟩ := hp _ m1
  obtain ⟨b, ys, e2, ⟨o2, ho2, hc2, n2, hd2⟩, i2⟩ := hp _ m2
  rw [e1, e2]
  refine PySem.W.kat_lt ho hd ho2 hd2 (lex_run 0 i1 i2 ?_)
  have l1 := i1.length
  have l2 := i2.length
  rw [Array.length_toList] at l1 l2
  rw [l1, l2, lexF_lt]
  exact ⟨rfl, rfl⟩
theorem firstsT {h : Heap} {k : Value → List Int} : ∀ (vs : List Value), (∀ v ∈ vs, TS.TupInts h v (k v) ∧ k v ≠ []) → ∃ fs, PySem.W.KatTups h vs fs ∧ fs.length = vs.length ∧ ∀ f ∈ fs, ∃ n t, f = Value.int n t
  | [], _ => ⟨[], PySem.W.KatTups.nil, rfl, fun _ z => by cases z⟩
  | v :: vs, x => by
    obtain ⟨fs, c1, c2, c3⟩ := firstsT vs fun u hu => x u (List.mem_cons_of_mem _ hu)
    obtain ⟨⟨a, xs, e, ⟨o, ho, hc, n, hd⟩, i⟩, hne⟩ := x v List.mem_cons_self
    have : ∃ y, xs[0]? = some y ∧ ∃ n t, y = Value.int n t := by
      generalize k v = ks at i hne
      cases ks with
      | nil => exact absurd rfl hne
      | cons m ms =>
        cases q : xs.toList with
        | nil => rw [q] at i; cases i
        | cons y ys =>
          rw [q] at i
          refine ⟨y, ?_, ?_⟩
          · rw [← Array.getElem?_toList, q]; rfl
          · cases i with
            | cons _ _ _ => exact ⟨_, _, rfl⟩
    obtain ⟨y, e3, e4⟩ := this
    rw [e]
    refine ⟨y :: fs, PySem.W.KatTups.cons ho hc hd e3 c1, by rw [List.length_cons, List.length_cons, c2], fun f hf => ?_⟩
    rcases List.mem_cons.mp hf with z | hf
    · rw [z]; exact e4
    · exact c3 f hf
theorem lexHT : ∀ x y : List Int, HT.lexLt x y = lexLt x y
  | [], [] => rfl
  | [], _ :: _ => rfl
  | _ :: _, [] => rfl
  | a :: x, b :: y => by
    rw [HT.lexLt_cons, lexHT x y]
    rfl
theorem keyLt_general (x y : Value) : PyProof.Rows.keyLt' PyProof.Rows.general' x y = PyProof.Rows.oneLt' false x y := rfl
theorem oneLt_tup {c : Bool} {l b : Addr} {items items2 : Array Value} {ns ms : List Int} {Q : Bool → Shared → Prop} (hl : IsTup s.heap l items) (hb : IsTup s.heap b items2) (hi : IntsAre items.toList ns) (hj : IntsAre items2.toList ms)
    (hu : A.units < cLine) (h : Q (lexLt ns ms) s) : wpAny (model prog w) A (PyProof.Rows.oneLt' c (.ref l) (.ref b)) Q E s := by
  cases c with
  | false => exact PySem.W.kat_one _ _ (HT.lt_tupInts (Q := PySem.W.BoolBack Q) hl hb hi hj hu (by rw [lexHT]; exact h))
  | true =>
    obtain ⟨⟨cls, dd, data, sl⟩, ho, hc, n, hd⟩ := id hl
    obtain ⟨⟨cls2, dd2, data2, sl2⟩, ho2, hc2, n2, hd2⟩ := id hb
    simp only at hc hd hc2 hd2
    subst hc hd hc2 hd2
    rw [PyProof.Rows.oneLt'_eq]
    simp only [if_true]
    refine wpAny_bind (wpAny_cRoomFor hu ?_)
    refine wpAny_bind (wpAny_callSpecialIfBound?_slot (T := "tuple") ⟨_, ho, rfl⟩ PySem.F.slot_tuple_lt (call_meets PySem.F.slot_tuple_lt ⟨_, ho, rfl⟩ PySem.F.entry_tuple_lt (PySem.F.args_tuple_lt_2 _ _) (HT.tuple_lt_ints l b items items2 n n2 dd dd2 sl sl2 ns ms hi hj) ⟨ho, ho2, ?_⟩))
    rw [lexHT]
    exact wpAny_truthy_bool h
theorem cmpG {κ : SortKind} (hk : κ = PyProof.Rows.general' ∨ κ = PyProof.Rows.oneType') (hu : A.units < cLine) {vs : List Value} {k : Value → List Int} (hp : ∀ v ∈ vs, TS.TupInts s.heap v (k v)) : SrtO.Cmp prog w A s κ (fun p => p.1 ∈ vs) (SrtO.lt2 (ltT k)) := by
  intro p q m1 m2
  obtain ⟨a, xs, e1, t1, i1⟩ := hp _ m1
  obtain ⟨b, ys, e2, t2, i2⟩ := hp _ m2
  rw [e1, e2]
  rcases hk with rfl | rfl
  · rw [keyLt_general]
    exact oneLt_tup t1 t2 i1 i2 hu ⟨rfl, rfl⟩
  · rw [PyProof.Rows.keyLt'_oneType]
    exact oneLt_tup t1 t2 i1 i2 hu ⟨rfl, rfl⟩
theorem firstsO {k : Value → List Int} : ∀ (vs : List Value), (∀ v ∈ vs, TS.TupInts s.heap v (k v)) → ∃ os : List (Option Value), os.map Option.isSome = vs.map (fun v => !(k v).isEmpty) ∧
    ∀ {Q : List (Option Value) → Shared → Prop} {E : Value → Shared → Prop}, Q os s → wpAny (model prog w) A (vs.mapM PyProof.Rows.firstOfTuple') Q E s
  | [], _ => ⟨[], rfl, fun h => by rw [List.mapM_nil]; exact wpAny_pure h⟩
  | v :: vs, x => by
    obtain ⟨os, e1, h1⟩ := firstsO vs fun u hu => x u (List.mem_cons_of_mem _ hu)
    obtain ⟨a, xs, e, ⟨o, ho, hc, n, hd⟩, i⟩ := x v List.mem_cons_self
    refine ⟨xs[0]? :: os, ?_, fun {Q} {E} h => ?_⟩
    · rw [List.map_cons, List.map_cons, e1]
      congr 1
      generalize k v = ks at i
      rw [← Array.getElem?_toList]
      generalize xs.toList = ys at i
      cases i with
      | nil => rfl
      | cons _ _ _ => rfl
    · rw [List.mapM_cons, e]
      refine wpAny_bind ?_
      rw [PySem.W.kas_first_eq]
      refine wpAny_bind (PySem.W.Looks.here (show PySem.W.Looks _ s.heap (typeOf (.ref a)) o.cls from (PySem.W.Looks.ld ho).andThen .now) ?_)
      rw [hc, if_neg (by first | decide | simp)]
      refine wpAny_bind (PyProof.Rows.listItems_at ho hd (wpAny_pure ?_))
      exact wpAny_bind (h1 (Q := fun bs s' => wpAny (model prog w) A (pure (xs[0]? :: bs)) Q E s') (wpAny_pure h))
theorem kindG {vs : List Value} {k : Value → List Int} (h2 : 2 ≤ vs.length) (hp : ∀ v ∈ vs, TS.TupInts s.heap v (k v)) (hne : ¬ ∀ v ∈ vs, k v ≠ []) : ∃ κ, (κ = PyProof.Rows.general' ∨ κ = PyProof.Rows.oneType') ∧
    ∀ {Q : SortKind → Shared → Prop} {E : Value → Shared → Prop}, Q κ s → wpAny (model prog w) A (PyProof.Rows.keyKind' vs.toArray) Q E s := by
  obtain ⟨os, e1, h1⟩ := firstsO (prog := prog) (w := w) (A := A) vs hp
  have hall : (os.toArray.all fun x => x.isSome) = false := by
    rw [List.all_toArray, ← Bool.not_eq_true]
    intro q
    refine hne fun v hv z => ?_
    have m : (!(k v).isEmpty) ∈ os.map Option.isSome := by rw [e1]; exact List.mem_map.mpr ⟨v, hv, rfl⟩
    obtain ⟨o, ho, e⟩ := List.mem_map.mp m
    have := List.all_eq_true.mp q o ho
    rw [this, z] at e
    cases e
  by_cases h0 : (os.toArray[0]?.bind id).isSome = true
  · refine ⟨PyProof.Rows.general', .inl rfl, fun {Q} {E} q => ?_⟩
    rw [PyProof.Rows.keyKind'_eq, List.mapM_toArray, map_eq_pure_bind]
    refine wpAny_bind (wpAny_bind (h1 (wpAny_pure ?_)))
    rw [if_neg (by rw [hall]; decide), if_pos h0]
    exact wpAny_pure q
  · refine ⟨PyProof.Rows.oneType', .inr rfl, fun {Q} {E} q => ?_⟩
    rw [PyProof.Rows.keyKind'_eq, List.mapM_toArray, map_eq_pure_bind]
    refine wpAny_bind (wpAny_bind (h1 (wpAny_pure ?_)))
    rw [if_neg (by rw [hall]; decide), if_neg h0]
    obtain ⟨v₁, v₂, rest, rfl⟩ : ∃ v₁ v₂ rest, vs = v₁ :: v₂ :: rest := by
      match vs, h2 with
      | [], h2 => simp at h2
      | [_], h2 => simp at h2
      | v₁ :: v₂ :: rest, _ => exact ⟨v₁, v₂, rest, rfl⟩
    rw [PyProof.Rows.oneTypeOnly'_eq, List.mapM_toArray, map_eq_pure_bind]
    refine wpAny_bind (wpAny_bind (wpAny_bind (PySem.W.kas_mapM (r := Value.type "tuple") _ (fun v hv Q' hq => ?_) (wpAny_pure ?_))))
    · obtain ⟨a, xs, e, ⟨o, ho, hc, n, hd⟩, i⟩ := hp v hv
      rw [e]
      refine PySem.W.Looks.here (show PySem.W.Looks _ s.heap (typeOf (.ref a)) o.cls from (PySem.W.Looks.ld ho).andThen .now) ?_
      rw [hc]
      exact hq
    · have hall : ((List.map (fun _ => Value.type "tuple") (v₁ :: v₂ :: rest)).toArray.all fun x => x == Value.type "tuple") = true := by
        simp only [List.all_toArray, List.all_map, List.all_eq_true]
        intro _ _
        exact (by rfl : (Value.type "tuple" == Value.type "tuple") = true)
      have h0 : (List.map (fun _ => Value.type "tuple") (v₁ :: v₂ :: rest)).toArray[0]? = some (Value.type "tuple") := by simp
      rw [h0]
      simp only
      rw [if_pos hall]
      exact wpAny_pure (wpAny_pure q)
theorem sortableT {a : Addr} {vs : List Value} {k : Value → List Int} (hu : A.units < cLine) (h2 : 2 ≤ vs.length) (hp : ∀ v ∈ vs, TS.TupInts s.heap v (k v)) (ha : ∀ o, s.heap.get? a = some o → o.cls ≠ .type "tuple") : SrtO.SortableO prog w A s a vs (ltT k) := by
  intro g keep
  have hp1 : ∀ v ∈ vs, TS.TupInts g v (k v) := fun v hv => (hp v hv).keeps fun b o e c => keep b o (fun z => by rw [z] at e; exact ha o e c) e
  by_cases hne : ∀ v ∈ vs, k v ≠ []
  · have hp2 : ∀ v ∈ vs, TS.TupInts g v (k v) ∧ k v ≠ [] := fun v hv => ⟨hp1 v hv, hne v hv⟩
    obtain ⟨fs, c1, c2, c3⟩ := firstsT vs hp2
    refine ⟨tuples' true, fun Q E hq => PySem.W.kat_kind (T := .type "int") c1 (by omega) (fun f hf => ?_) (by rfl) hq, cmpT fun v hv => (hp2 v hv).1⟩
    obtain ⟨n, t, rfl⟩ := c3 f hf
    exact PySem.W.Looks.now
  · obtain ⟨κ, hk, h1⟩ := kindG (prog := prog) (w := w) (A := A) (s := { s with heap := g }) h2 hp1 hne
    exact ⟨κ, fun Q E hq => h1 hq, cmpG hk hu hp1⟩
end
/-- sorted(xs), a list of tuples of ints -/
def rSortT (K : PySem.W.Frag) : List V → Hp → VK → Prop := fun vs H Q => ∃ (a : Addr) (xs : List V) (k : V → List Int), vs = [V.ref a] ∧ SqL K H a xs ∧ (∀ x ∈ xs, TupI K H x (k x)) ∧
  ∀ (ys : List V) (p : Addr), ys.Perm xs → SrT (ys.map k) → H p = none → Q (.ref p) (upd H p (.lst ys))
section
variable {X : Cx}
theorem cr_sortLT (hu : X.A.units + 65 < cLine) : CallR X (.builtin "sorted") (rSortT X.K) := by
  intro pins s σ H vs us Q I r h
  obtain ⟨a, xs, k, rfl, hs, hx, q⟩ := h
  obtain ⟨its, rv, hl, hz⟩ := I.list hs
  rw [Vals.ref1 r]
  obtain ⟨e1, e2⟩ := bkV_refs rv fun x m => by
    obtain ⟨t, e, _⟩ := hx x m
    exact ⟨t, e⟩
  have hp : ∀ v ∈ its, TS.TupInts s.heap v (k (bkV v)) := fun v hv => by
    obtain ⟨t, rfl⟩ := e2 v hv
    have hm : V.ref t ∈ xs := by rw [e1]; exact List.mem_map.mpr ⟨_, hv, rfl⟩
    obtain ⟨t2, e, ht⟩ := hx _ hm
    cases e
    exact tupI_raw I ht
  have hl2 : xs.length = its.length := rv.length
  refine SrtO.sorted_ord (swoT fun v => k (bkV v)) hl.isList (by rw [← hl2]; exact hz) (fun c h₁ a2 g1 g2 => ?_) fun out o1 o2 => ?_
  · exact sortableT (by show X.A.units + 1 + 1 < cLine; omega) c (fun v hv => (hp v hv).keeps fun b o e _ => (g2 b o e).2) fun o ho z => by
      have e3 : some (seqObj "list" its.toArray 0) = some o := g1.symm.trans ho
      cases e3
      have z : Value.type "list" = Value.type "tuple" := z
      injection z with z
      exact absurd z (by decide)
  · obtain ⟨ep, he⟩ := PyProof.Rows.sortedAll_at s.heap its out.toArray
    have h3 : ∀ u ∈ out, ∃ a, u = Value.ref a := fun u hu => e2 u (o2.perm.mem_iff.mp hu)
    have pm : (out.map bkV).Perm xs := by rw [e1]; exact o2.perm.map bkV
    refine ⟨.ref _, upd H (s.heap.objs.size + 1) (.lst (out.map bkV)), I.laid (t' := s.toks) (fun _ _ => PyProof.Rows.sortedAll_old) (Nat.le_succ _) ⟨by rw [pm.length_eq]; exact hz, out, ep, bkV_vals h3, he⟩, rfl, q _ _ pm ?_ (I.hok.fresh (Nat.le_succ _))⟩
    rw [List.map_map]
    exact List.pairwise_map.mpr o1
/-! ### sets of tuples -/
theorem perm_inv {α β : Type} {f : α → β} {l1 l2 : List β} (p : l1.Perm l2) : ∀ {M : List α}, l2 = M.map f → ∃ N : List α, N.Perm M ∧ l1 = N.map f := by
  induction p with
  | nil => intro M e; exact ⟨M, .refl _, e⟩
  | cons x p ih =>
    intro M e
    cases M with
    | nil => cases e
    | cons m M =>
      rw [List.map_cons] at e
      injection e with e1 e2
      obtain ⟨N, n1, n2⟩ := ih e2
      exact ⟨m :: N, n1.cons m, by rw [List.map_cons, ← n2, e1]⟩
  | swap x y l =>
    intro M e
    match M, e with
    | m1 :: m2 :: M, e =>
      rw [List.map_cons, List.map_cons] at e
      injection e with e1 e2
      injection e2 with e2 e3
      exact ⟨m2 :: m1 :: M, List.Perm.swap .., by rw [List.map_cons, List.map_cons, e1, e2, e3]⟩
    | [], e => cases e
    | [_], e => injection e with _ e; cases e
  | trans p1 p2 ih1 ih2 =>
    intro M e
    obtain ⟨N, n1, n2⟩ := ih2 e
    obtain ⟨N2, m1, m2⟩ := ih1 n2
    exact ⟨N2, m1.trans n1, m2⟩
theorem sorted_tset {P : Program} {w : World} {A : Around} {E : Value → Shared → Prop} {s : Shared} {a : Addr} {M : List (Addr × List Int)} {es : Array (Int × Value)} {ep : Nat} {t : SetTable} {Q : Value → Shared → Prop} (R : SetTR P w s.heap a M es ep t) (hh : A.handled = none)
    (hu : A.units + 3 < cLine)
    (hq : ∀ (u : Shared) (p : Addr) (out : Array Value) (c : Nat) (N : List (Addr × List Int)), (∀ b o, s.heap.get? b = some o → u.heap.get? b = some o) → u.gens = s.gens → u.os = s.os → s.heap.objs.size ≤ p →
      u.heap.get? p = some (seqObj "list" out c) → out.toList = N.map (fun q => Value.ref q.1) → N.Perm M → SrT (N.map (·.2)) → Q (.ref p) u) :
    wpAny (model P w) A (call (.builtin "sorted") [.ref a]) Q E s := by
  obtain ⟨o, ho, hex, hd⟩ := R.ob
  have few := R.few
  have nsz := R.size
  refine Calls.call_function_entry kind_sorted plain_sorted entry_sorted (args_sorted1 _) ?_
  unfold Builtin.«sorted»
  refine wpAny_bind (m := checkCount "sorted" 1 1 _) (wpAny_pure ?_)
  refine wpAny_bind (collect_set (A := A.in1) hh ⟨o, ho, hex.1, hd⟩ R.fits (by unfold scanBound; omega) R.tab.ris R.led fun u vs k1 hz g1 o1 pm => ?_)
  have he : es.toList.map (·.2) = M.map fun q => Value.ref q.1 := by
    rw [R.rows]
    unfold rowsOf
    rw [List.map_map] <;> rfl
  obtain ⟨N, n1, n2⟩ := perm_inv pm he
  have hl : vs.length < 64 := by rw [n2, List.length_map, n1.length_eq]; exact few
  refine wpAny_bind (wpAny_newList ?_ (by rw [sizeLine_eq]; omega))
  have hoL : (u.heap.push (seqObj "list" vs.toArray 0)).get? u.heap.objs.size = some (seqObj "list" vs.toArray 0) := Heap.get?_push_size _ rfl
  have tk : ∀ q ∈ M, TS.TupInts (u.heap.push (seqObj "list" vs.toArray 0)) (.ref q.1) q.2 := fun q hq => tupInts_of (P := P) (w := w) (isT_keep (R.tup q hq) fun b z e => Heap.get?_push_of_some _ (k1 b z e))
  have tv : ∀ v ∈ vs, ∃ q ∈ M, v = Value.ref q.1 := fun v hv => by
    rw [n2] at hv
    obtain ⟨q, hq, e⟩ := List.mem_map.mp hv
    exact ⟨q, n1.mem_iff.mp hq, e.symm⟩
  have kv : ∀ q ∈ M, TS.intsOf (u.heap.push (seqObj "list" vs.toArray 0)) (.ref q.1) = q.2 := fun q hq => (tk q hq).ints
  refine wpAny_bind (wpAny_holding (wpAny_call_entry slot_list_sort ⟨_, hoL, rfl⟩ entry_list_sort (SrtO.list_sort_ord (s := { u with heap := u.heap.push (seqObj "list" vs.toArray 0) }) (swoT (TS.intsOf (u.heap.push (seqObj "list" vs.toArray 0)))) hoL (by rw [sizeLine_eq]; omega) (fun c => ?_) fun out s1 s2 => ⟨_, rfl, ?_⟩) (args_list_sort _)))
  · refine sortableT (by show A.units + 1 + 1 < cLine; omega) c (fun v hv => ?_) fun o2 h2 z => ?_
    · obtain ⟨q, hq, rfl⟩ := tv v hv
      rw [kv q hq]
      exact tk q hq
    · have e3 : some (seqObj "list" vs.toArray 0) = some o2 := hoL.symm.trans h2
      cases e3
      have z : Value.type "list" = Value.type "tuple" := z
      injection z with z
      exact absurd z (by decide)
  · obtain ⟨c, hc⟩ := sortedHeap_at (vs := vs) (out := out.toArray) hoL
    obtain ⟨N2, m1, m2⟩ := perm_inv (s2.perm.trans (by rw [n2])) rfl
    have mm : N2.Perm M := m1.trans n1
    refine wpAny_pure ⟨_, rfl, hq _ u.heap.objs.size out.toArray c N2 (fun b z e => ?_) g1 o1 hz hc m2 mm ?_⟩
    · have q := k1 b z e
      have hlt := Heap.lt_size q
      show (sortedHeap (u.heap.push (seqObj "list" vs.toArray 0)) u.heap.objs.size vs out.toArray).get? b = some z
      rw [sortedHeap_old (Nat.ne_of_lt hlt) (by rw [size_push']; exact Nat.lt_succ_of_lt hlt)]
      exact Heap.get?_push_of_some _ q
    · rw [m2] at s1
      refine List.pairwise_map.mpr (List.Pairwise.imp_of_mem (fun {q r} hq hr h => ?_) (List.pairwise_map.mp s1))
      have h : lexLt (TS.intsOf _ (.ref r.1)) (TS.intsOf _ (.ref q.1)) = false := h
      rw [kv q (mm.mem_iff.mp hq), kv r (mm.mem_iff.mp hr)] at h
      exact h
/-- sorted(set): a set of tuples -/
def rSortTS (K : PySem.W.Frag) (P : Program) (w : World) : List V → Hp → VK → Prop := fun vs H Q => ∃ (a : Addr) (M : List (Addr × List Int)), vs = [V.ref a] ∧ H a = some (SetTO P w a M) ∧ (∀ p ∈ M, SqT K H p.1 (p.2.map V.int)) ∧
  ∀ (N : List (Addr × List Int)) (p : Addr), N.Perm M → (N.map (·.2)).Nodup → SrT (N.map (·.2)) → H p = none → Q (.ref p) (upd H p (.lst (N.map fun q => V.ref q.1)))
theorem cr_sortTS (hc : X.calm = true) (hu : X.A.units + 65 < cLine) : CallR X (.builtin "sorted") (rSortTS X.K X.prog X.w) := by
  intro pins s σ H vs us Q I r h
  obtain ⟨a, M, rfl, ha, hk, q⟩ := h
  have R0 : SetT0 X.prog X.w s.heap a M := (I.hok a _ ha).1
  obtain ⟨es, ep, t, R⟩ := R0.full fun p hp => I.isT (hk p hp)
  rw [Vals.ref1 r]
  refine sorted_tset R (I.ok.hd hc) (by omega) fun u p out c N k g o hp hg ho pm so => ?_
  have few : N.length < 64 := by rw [pm.length_eq]; exact R.few
  have hlen : (N.map fun q => V.ref q.1).length ≤ sizeLine := by rw [List.length_map, sizeLine_eq]; omega
  have hn : H p = none := I.hok.fresh hp
  have hv : Vals (N.map fun q => V.ref q.1) out.toList := by rw [ho]; exact vals_of_refs N
  have J : Inv X pins σ (upd H p (.lst (N.map fun q => V.ref q.1))) { s with heap := u.heap, gens := u.gens, drawn := u.drawn, toks := u.toks } :=
    I.call (ch := []) (Un.laid k hp hn) (I.hok.laid k hp ⟨hlen, out.toList, c, hv, hg⟩) (by rw [g]; exact I.bare) (fun _ z => nomatch z)
  have e : u = { s with heap := u.heap, gens := u.gens, drawn := u.drawn, toks := u.toks } := by
    cases u
    cases s
    cases o
    rfl
  rw [e]
  exact ⟨.ref p, _, J, rfl, q N p pm ((pm.map (·.2)).nodup_iff.mpr R.nd) so hn⟩
end
end Tn

set_option maxRecDepth 100000
set_option maxHeartbeats 3200000
/-! TnI: the set of a list of ints. -/
namespace Tn
open PySem PySem.Spec PyProof.Rows L2
section
variable {P : Program} {w : World} {A : Around} {E : Value → Shared → Prop} {s : Shared}
theorem set_lst {l : Addr} {xs : Array Value} (ns : List Int) {Q : Value → Shared → Prop} (h0 : A.handled = none) (hl : s.heap.IsList l xs) (ia : IntsAre xs.toList ns) (hb : ns.length + 1 < scanBound)
    (fin : ∀ (g : Heap) (tk c : Nat), SetR w g s.heap.objs.size (fun j => decide (j ∈ ns)) c → c ≤ ns.length → (∀ b o, s.heap.get? b = some o → g.get? b = some o) → Q (.ref s.heap.objs.size) { s with heap := g, toks := tk }) :
    wpAny (model P w) A (call (.type "set") [.ref l]) Q E s := by
  have zz : xs.size = ns.length := by
    have q := IntsAre.length ia
    rw [Array.length_toList] at q; exact q
  have kset := F.called_set
  obtain ⟨c0, t0, m1⟩ := kset.mro
  have m2 := kset.made; have m3 := kset.sub; have m4 := kset.notType; have m5 := kset.canCreate
  have m6 := F.typeCall_set_1 (.ref l)
  refine wpAny_call <| codeAny_of_tree ?_
  show wpAny _ _ (callAny (.type "set") _) _ _ _
  refine wpAny_pure ⟨Code.quiet_builtin _ (by decide +kernel), codeAny_builtin F.entry_type_call ?_⟩
  rw [Around.under_plain (weight_type_call_type "set" [.ref l] []) rfl]
  repeat any_goals (first | assumption | wp_step)
  refine codeAny_mono (code_set_led1 (.ref l) (E := E) (Q₁ := fun v u => v = .ref s.heap.objs.size ∧ u = { s with heap := s.heap.push { cls := .type "set", dict := none, data := .set #[] 0 (.fresh 0 0 (!w.params.followText "set-order")) } }) ⟨rfl, rfl⟩) fun r u hr => ?_
  cases r with
  | error e => exact hr
  | ok fl =>
  cases fl with
  | ret v =>
    obtain ⟨rfl, rfl⟩ := hr
    have g1 : (s.heap.push { cls := .type "set", dict := none, data := .set #[] 0 (.fresh 0 0 (!w.params.followText "set-order")) }).get? s.heap.objs.size = some { cls := .type "set", dict := none, data := .set #[] 0 (.fresh 0 0 (!w.params.followText "set-order")) } := Heap.get?_push_size _ rfl
    have ty : Shared.TypeIs { s with heap := s.heap.push { cls := .type "set", dict := none, data := .set #[] 0 (.fresh 0 0 (!w.params.followText "set-order")) } } (.ref s.heap.objs.size) "set" := ⟨_, g1, rfl⟩
    have i1 := kset.init.lookup; have i2 := kset.init.bind (.ref s.heap.objs.size)
    repeat any_goals (first | assumption | wp_step)
    refine codeAny_mono (codeAny_call_builtin (R := wants (fun r u2 => r = .none ∧ ∃ g tk c, u2 = { s with heap := g, toks := tk } ∧ SetR w g s.heap.objs.size (fun j => decide (j ∈ ns)) c ∧ c ≤ ns.length ∧ (∀ b o, s.heap.get? b = some o → g.get? b = some o)) E)
      kset.init.plain F.entry_set_init (check_set_init_1 ty ?_)) fun r2 u2 hr2 => ?_
    · obtain ⟨⟨oc, od, dt, os⟩, ol, oe, n0, dd⟩ := id hl
      replace oe : oc = .type "list" := oe
      replace dd : dt = .seq xs n0 := dd
      subst oe dd
      have ol2 : (s.heap.push { cls := .type "set", dict := none, data := .set #[] 0 (.fresh 0 0 (!w.params.followText "set-order")) }).get? l = some { cls := .type "list", dict := od, data := .seq xs n0, slots := os } := Heap.get?_push_of_some _ ol
      have q1 : (Value.type "list" == Value.type "dict") = false := by decide
      have q2 := F.sub_list_set; have q3 := F.sub_list_frozenset
      have hl1 : (s.heap.push { cls := .type "set", dict := none, data := .set #[] 0 (.fresh 0 0 (!w.params.followText "set-order")) }).IsList l xs := ⟨_, ol2, rfl, n0, rfl⟩
      unfold Builtin.«set.__init__» noKeywords Builtin.Frozenset.updateFrom
      generalize hpi : pyIter = PI0
      wp_walk
      subst hpi
      refine wpAny_pyIter_list hl1 ?_
      refine wpAny_bind ?_; refine wpAny_runValue ?_
      have lt : l < s.heap.objs.size := Heap.lt_size ol
      have h3 : A.in1.in1.in1.handled = none := by simp [h0]
      have z1 : (s.heap.push { cls := .type "set", dict := none, data := .set #[] 0 (.fresh 0 0 (!w.params.followText "set-order")) }).objs.size = s.heap.objs.size + 1 := Heap.size_push ..
      have nI : l ≠ (s.heap.push { cls := .type "set", dict := none, data := .set #[] 0 (.fresh 0 0 (!w.params.followText "set-order")) }).objs.size := by rw [z1]; exact Nat.ne_of_lt (Nat.lt_succ_of_lt lt)
      have nS : s.heap.objs.size ∉ [(s.heap.push { cls := .type "set", dict := none, data := .set #[] 0 (.fresh 0 0 (!w.params.followText "set-order")) }).objs.size, l] := by
        rw [z1]; simp only [List.mem_cons, List.not_mem_nil, or_false, not_or]
        exact ⟨Nat.ne_of_lt (Nat.lt_succ_self _), Nat.ne_of_gt lt⟩
      have val : ∀ (i : Nat) (v : Value), xs[i]? = some v → ∃ k t, ns[i]? = some k ∧ v = .int k t := fun i v hv => by
        have hi : i < ns.length := by rw [← zz]; exact (Array.getElem?_eq_some_iff.mp hv).1
        obtain ⟨t, e⟩ := PyProof.Rows.IntsAre.int_at ia i v (by rw [Array.getElem?_toList]; exact hv)
        exact ⟨ns[i], t, List.getElem?_eq_getElem hi, by rw [e, List.getD_eq_getElem?_getD, List.getElem?_eq_getElem hi]; rfl⟩
      refine set_update_ints ((Walks.list h3 _ l nI xs).toS) s.heap.objs.size nS ns zz hb val (xs.size - 0) 0 _ (by omega) (Nat.zero_le _) ⟨⟨_, Heap.get?_push_size _ rfl, rfl, rfl⟩, (hl1.push _)⟩ ?_ ?_
      · exact ⟨0, Nat.le_refl 0, setR_new_at (Heap.get?_push_of_some _ g1)⟩
      · intro u3 c3 hm hc hS
        obtain ⟨g, gg, dd, tk, os3⟩ := u3
        obtain rfl : gg = s.gens := hm.gens
        obtain rfl : dd = s.drawn := hm.drawn
        obtain rfl : os3 = s.os := hm.os
        rw [zz] at hc
        show wpAny _ _ _ _ _ _
        refine wpAny_pure ?_
        show wpAny _ _ (ret Value.none) _ _ _
        refine wpAny_pure ⟨rfl, g, tk, c3, rfl, hS, hc, fun b o e => ?_⟩
        have lb : b < s.heap.objs.size := Heap.lt_size e
        exact hm.heap b o (by simp only [z1, List.mem_cons, List.not_mem_nil, or_false, not_or]; exact ⟨Nat.ne_of_lt lb, Nat.ne_of_lt (Nat.lt_succ_of_lt lb)⟩) (Heap.get?_push_of_some _ (Heap.get?_push_of_some _ e))
    · cases r2 with
      | error e => exact hr2
      | ok fl2 =>
      cases fl2 with
      | ret r =>
        obtain ⟨rfl, g, tk, c3, rfl, hS, hc, hk⟩ := hr2
        repeat any_goals (first | assumption | wp_step)
        exact fin _ _ _ hS hc hk
      | _ => exact hr2.elim
  | _ => exact hr.elim
end
end Tn

set_option maxRecDepth 100000
set_option maxHeartbeats 2000000
/-! TnJ: data that are tuples of ints. -/
namespace Tn
open PySem PySem.Spec PyProof.Rows L2
section
variable {X : Cx} {K : PySem.W.Frag} {H : Hp}
theorem tups_back : ∀ {ds : Ds} {ts : List (List Int)} {zs : List V}, tupsOf ds = some ts → DqAll K H zs ds → ∃ ks : List (Addr × List Int), zs = ks.map (fun p => V.ref p.1) ∧ ks.map (·.2) = ts ∧ ∀ p ∈ ks, SqT K H p.1 (p.2.map V.int)
  | [], ts, zs, e, h => by
    cases e; cases h
    exact ⟨[], rfl, rfl, fun _ z => by cases z⟩
  | d :: ds, ts, zs, e, h => by
    cases h with
    | cons h1 h2 =>
      cases d with
      | tuple t =>
        unfold tupsOf at e
        cases q1 : intsOf t with
        | none => rw [q1] at e; cases e
        | some ns =>
          cases q2 : tupsOf ds with
          | none => rw [q1, q2] at e; cases e
          | some r =>
            rw [q1, q2] at e
            cases e
            obtain ⟨ks, e1, e2, e3⟩ := tups_back q2 h2
            cases h1 with
            | tup s a =>
              rename_i c xs
              have ex := dqAll_ints q1 a
              subst ex
              refine ⟨(c, ns) :: ks, by rw [List.map_cons, e1], by rw [List.map_cons, e2], fun p hp => ?_⟩
              rcases List.mem_cons.mp hp with rfl | hp
              · exact s
              · exact e3 p hp
      | _ => simp [tupsOf] at e
theorem tups_dq : ∀ (ks : List (Addr × List Int)), (∀ p ∈ ks, SqT K H p.1 (p.2.map V.int)) → DqAll K H (ks.map fun p => V.ref p.1) (dT (ks.map (·.2)))
  | [], _ => .nil
  | p :: ks, h => .cons (.tup (h p List.mem_cons_self) (DqAll.nums _)) (tups_dq ks fun q hq => h q (List.mem_cons_of_mem _ hq))
theorem lay_dT (ts : List (List Int)) : LayAll (dT ts) := layAll_iff.mpr fun d hd => by
  obtain ⟨t, _, rfl⟩ := List.mem_map.mp hd
  exact lay_tup.mpr (layAll_ints t)
/-- set(xs), ints -/
def rSetI (K : PySem.W.Frag) (w : World) : List V → Hp → VK → Prop := fun vs H Q => ∃ (l : Addr) (ns : List Int), vs = [V.ref l] ∧ (SqL K H l (ns.map V.int) ∨ SqT K H l (ns.map V.int)) ∧ ns.length < 64 ∧
  ∀ (p : Addr) (c : Nat), H p = none → c ≤ ns.length → Q (.ref p) (upd H p (SetO w p (fun j => decide (j ∈ ns)) c))
theorem cr_setI (hc : X.calm = true) : CallR X (.type "set") (rSetI X.K X.w) := by
  intro pins s σ H vs us Q I r h
  obtain ⟨l, ns, rfl, hs, h64, q⟩ := h
  rw [Vals.ref1 r]
  have hn : H s.heap.objs.size = none := I.hok.fresh (Nat.le_refl _)
  have fin : ∀ (g : Heap) (tk c : Nat), SetR X.w g s.heap.objs.size (fun j => decide (j ∈ ns)) c → c ≤ ns.length → (∀ b o, s.heap.get? b = some o → g.get? b = some o) → EP X pins σ Q (.ref s.heap.objs.size) { s with heap := g, toks := tk } := fun g tk c hS hcl hk =>
    ⟨.ref s.heap.objs.size, upd H s.heap.objs.size (SetO X.w s.heap.objs.size (fun j => decide (j ∈ ns)) c), I.laid (t' := tk) hk (Nat.le_refl _) (setO_new hS), rfl, q _ c hn hcl⟩
  rcases hs with hs | hs
  · obtain ⟨its, rv, hl, hz⟩ := I.list hs
    exact set_lst ns (I.ok.hd hc) hl.isList (by simpa using rv.ints) (by unfold scanBound; omega) fin
  · obtain ⟨its, rv, hl, hz⟩ := I.tuple hs
    exact call_set_tupI ns (I.ok.hd hc) hl (by simpa using rv.ints) (by unfold scanBound; omega) fin
end
end Tn

set_option maxRecDepth 100000
set_option maxHeartbeats 1000000
/-! Tn7: built-in functions and methods by values. -/
namespace Tn
open PySem PySem.Spec PyProof.Rows L2
def wpC (X : Cx) (f : Value) : List V → Hp → VK → Prop := fun xs H Q => ∀ (pins : List (Addr × Obj)) (s : Shared) (σ : L2.St) (us : List Value), Inv X pins σ H s → Vals xs us → wpAny (model X.prog X.w) X.A (call f us) (EP X pins σ Q) X.xe s
theorem wpC_I {X : Cx} {f : Value} {xs : List V} {H : Hp} {Q : VK} (h : ∀ {pins : List (Addr × Obj)} {s : Shared} {σ : L2.St}, Inv X pins σ H s → wpC X f xs H Q) : wpC X f xs H Q := fun pins s σ us I r => h I pins s σ us I r
theorem map_inj : ∀ {a b : List Int}, a.map V.int = b.map V.int → a = b
  | [], [], _ => rfl
  | [], _ :: _, h => by cases h
  | _ :: _, [], h => by cases h
  | x :: a, y :: b, h => by
    rw [List.map_cons, List.map_cons] at h
    injection h with h1 h2
    injection h1 with h1
    rw [h1, map_inj h2]
theorem cr_w {X : Cx} {f : Value} : CallR X f (wpC X f) := fun pins s σ _ _ us _ I r h => h pins s σ us I r
theorem wpC_of {X : Cx} {f : Value} {r : List V → Hp → VK → Prop} {xs : List V} {H : Hp} {Q : VK} (h : CallR X f r) (q : r xs H Q) : wpC X f xs H Q := fun pins s σ us I rv => h pins s σ H xs us Q I rv q
def biN : Bi → Str
  | .len => "len" | .int => "int" | .str => "str" | .abs => "abs" | .min2 => "min" | .max2 => "max" | .min1 => "min" | .max1 => "max"
  | .list => "list" | .tuple => "tuple" | .sorted => "sorted" | .bool => "bool" | .sset => "sorted"
def biV : Bi → Value
  | .len => .builtin "len" | .int => .type "int" | .str => .type "str" | .abs => .builtin "abs" | .min2 => .builtin "min" | .max2 => .builtin "max" | .min1 => .builtin "min" | .max1 => .builtin "max"
  | .list => .type "list" | .tuple => .type "tuple" | .sorted => .builtin "sorted" | .bool => .type "bool" | .sset => .builtin "sorted"
theorem bi_boot (b : Bi) : bootBuiltins (biN b) = some (biV b) := by cases b <;> decide +kernel

/-! ### sorted ints are one list -/
theorem insI_perm (x : Int) : ∀ l : List Int, (insI x l).Perm (x :: l)
  | [] => .refl _
  | y :: r => by
    unfold insI
    split
    · exact .refl _
    · exact ((insI_perm x r).cons y).trans (List.Perm.swap x y r)
theorem sortI_perm : ∀ l : List Int, (sortI l).Perm l
  | [] => .refl _
  | x :: r => (insI_perm x _).trans ((sortI_perm r).cons x)
theorem insI_sorted (x : Int) : ∀ {l : List Int}, l.Pairwise (· ≤ ·) → (insI x l).Pairwise (· ≤ ·)
  | [], _ => by simp [insI]
  | y :: r, h => by
    unfold insI
    have h1 := List.pairwise_cons.mp h
    split
    · rename_i hxy
      refine List.pairwise_cons.mpr ⟨fun z hz => ?_, h⟩
      rcases List.mem_cons.mp hz with e | hz
      · rw [e]; exact hxy
      · exact Int.le_trans hxy (h1.1 z hz)
    · rename_i hxy
      refine List.pairwise_cons.mpr ⟨fun z hz => ?_, insI_sorted x h1.2⟩
      rcases List.mem_cons.mp ((insI_perm x r).mem_iff.mp hz) with e | hz
      · rw [e]; omega
      · exact h1.1 z hz
theorem sortI_sorted : ∀ l : List Int, (sortI l).Pairwise (· ≤ ·)
  | [] => .nil
  | x :: r => insI_sorted x (sortI_sorted r)
theorem sorted_uniq : ∀ {l m : List Int}, l.Pairwise (· ≤ ·) → m.Pairwise (· ≤ ·) → l.Perm m → l = m
  | [], m, _, _, p => (List.Perm.eq_nil p.symm).symm
  | x :: l, [], _, _, p => absurd p.length_eq (by simp)
  | x :: l, y :: m, hl, hm, p => by
    have a := List.pairwise_cons.mp hl
    have b := List.pairwise_cons.mp hm
    have h1 : x ≤ y := by
      rcases List.mem_cons.mp (p.mem_iff.mpr (List.mem_cons_self (a := y) (l := m))) with e | h
      · omega
      · exact a.1 y h
    have h2 : y ≤ x := by
      rcases List.mem_cons.mp (p.mem_iff.mp (List.mem_cons_self (a := x) (l := l))) with e | h
      · omega
      · exact b.1 x h
    have e : x = y := by omega
    subst e
    rw [sorted_uniq a.2 b.2 p.cons_inv]
theorem dedI_mem {k : Int} : ∀ {l : List Int}, k ∈ dedI l ↔ k ∈ l
  | [] => by simp [dedI]
  | x :: r => by
    unfold dedI
    have ih := @dedI_mem k r
    split
    · rw [ih, List.mem_cons]
      constructor
      · exact .inr
      · rintro (e | h)
        · rw [e]; assumption
        · exact h
    · rw [List.mem_cons, List.mem_cons, ih]
theorem dedI_nodup : ∀ l : List Int, (dedI l).Nodup
  | [] => .nil
  | x :: r => by
    unfold dedI
    split
    · exact dedI_nodup r
    · exact List.nodup_cons.mpr ⟨fun h => by rw [dedI_mem] at h; contradiction, dedI_nodup r⟩
theorem dedI_len : ∀ l : List Int, (dedI l).length ≤ l.length
  | [] => Nat.le_refl _
  | x :: r => by
    unfold dedI
    have := dedI_len r
    split
    · rw [List.length_cons]; omega
    · rw [List.length_cons, List.length_cons]; omega
theorem foldl_min {r : List Int} : ∀ x : Int, (r.foldl (fun a b => if b < a then b else a) x = x ∨ r.foldl (fun a b => if b < a then b else a) x ∈ r) ∧ r.foldl (fun a b => if b < a then b else a) x ≤ x ∧ ∀ y ∈ r, r.foldl (fun a b => if b < a then b else a) x ≤ y := by
  induction r with
  | nil => intro x; exact ⟨.inl rfl, Int.le_refl _, fun y h => absurd h (by simp)⟩
  | cons z r ih =>
    intro x
    rw [List.foldl_cons]
    obtain ⟨h1, h2, h3⟩ := ih (if z < x then z else x)
    refine ⟨?_, ?_, fun y hy => ?_⟩
    · rcases h1 with h1 | h1
      · rw [h1]
        by_cases c : z < x
        · rw [if_pos c]; exact .inr List.mem_cons_self
        · rw [if_neg c]; exact .inl rfl
      · exact .inr (List.mem_cons_of_mem _ h1)
    · refine Int.le_trans h2 ?_
      split <;> omega
    · rcases List.mem_cons.mp hy with e | hy
      · rw [e]
        refine Int.le_trans h2 ?_
        split <;> omega
      · exact h3 y hy
theorem foldl_max {r : List Int} : ∀ x : Int, (r.foldl (fun a b => if a < b then b else a) x = x ∨ r.foldl (fun a b => if a < b then b else a) x ∈ r) ∧ x ≤ r.foldl (fun a b => if a < b then b else a) x ∧ ∀ y ∈ r, y ≤ r.foldl (fun a b => if a < b then b else a) x := by
  induction r with
  | nil => intro x; exact ⟨.inl rfl, Int.le_refl _, fun y h => absurd h (by simp)⟩
  | cons z r ih =>
    intro x
    rw [List.foldl_cons]
    obtain ⟨h1, h2, h3⟩ := ih (if x < z then z else x)
    refine ⟨?_, ?_, fun y hy => ?_⟩
    · rcases h1 with h1 | h1
      · rw [h1]
        by_cases c : x < z
        · rw [if_pos c]; exact .inr List.mem_cons_self
        · rw [if_neg c]; exact .inl rfl
      · exact .inr (List.mem_cons_of_mem _ h1)
    · refine Int.le_trans ?_ h2
      split <;> omega
    · rcases List.mem_cons.mp hy with e | hy
      · rw [e]
        refine Int.le_trans ?_ h2
        split <;> omega
      · exact h3 y hy
theorem min_mem (x : Int) (r : List Int) : minI x r ∈ x :: r ∧ ∀ y ∈ x :: r, minI x r ≤ y := by
  obtain ⟨h1, h2, h3⟩ := foldl_min (r := r) x
  refine ⟨?_, fun y hy => ?_⟩
  · rcases h1 with h1 | h1
    · unfold minI; rw [h1]; exact List.mem_cons_self
    · exact List.mem_cons_of_mem _ h1
  · rcases List.mem_cons.mp hy with e | hy
    · rw [e]; exact h2
    · exact h3 y hy
theorem max_mem (x : Int) (r : List Int) : maxI x r ∈ x :: r ∧ ∀ y ∈ x :: r, y ≤ maxI x r := by
  obtain ⟨h1, h2, h3⟩ := foldl_max (r := r) x
  refine ⟨?_, fun y hy => ?_⟩
  · rcases h1 with h1 | h1
    · unfold maxI; rw [h1]; exact List.mem_cons_self
    · exact List.mem_cons_of_mem _ h1
  · rcases List.mem_cons.mp hy with e | hy
    · rw [e]; exact h2
    · exact h3 y hy

/-! ### texts -/
theorem asc_S {l : List Nat} : ascS (SX.S l) = true ↔ ∀ c ∈ l, c < 128 := by
  show (List.all _ _) = true ↔ _
  rw [List.all_eq_true]
  exact ⟨fun h c hc => of_decide_eq_true (h c hc), fun h c hc => decide_eq_true (h c hc)⟩
theorem asc_mem {x : Str} : ascS x = true ↔ ∀ c ∈ x.cps.toList, c < 128 := by
  unfold ascS
  rw [List.all_eq_true]
  exact ⟨fun h c hc => of_decide_eq_true (h c hc), fun h c hc => decide_eq_true (h c hc)⟩
theorem spl_mem {S : List Nat} : ∀ (k : Nat) (acc l : List Nat) (z : List Nat), z ∈ TL.spl S k acc l → ∀ c ∈ z, c ∈ acc ∨ c ∈ l
  | k, acc, [], z, hz, c, hc => by
    rw [TL.spl_nil, List.mem_singleton] at hz
    rw [hz] at hc; exact .inl hc
  | 0, acc, d :: r, z, hz, c, hc => by
    unfold TL.spl at hz
    split at hz
    · rcases List.mem_cons.mp hz with e | hz
      · rw [e] at hc; exact .inl hc
      · rcases spl_mem _ [] r z hz c hc with h | h
        · cases h
        · exact .inr (List.mem_cons_of_mem _ h)
    · rcases spl_mem 0 (acc ++ [d]) r z hz c hc with h | h
      · rcases List.mem_append.mp h with h | h
        · exact .inl h
        · rw [List.mem_singleton] at h; rw [h]; exact .inr List.mem_cons_self
      · exact .inr (List.mem_cons_of_mem _ h)
  | k + 1, acc, d :: r, z, hz, c, hc => by
    rcases spl_mem k acc r z hz c hc with h | h
    · exact .inl h
    · exact .inr (List.mem_cons_of_mem _ h)
theorem asc_split {a b : Str} (ha : ascS a = true) (hb : ascS b = true) (hne : b.length ≠ 0) : LayAll ((Txt.split a b).map PyData.str) := by
  refine layAll_iff.mpr fun d hd => ?_
  obtain ⟨z, hz, rfl⟩ := List.mem_map.mp hd
  have ea : SX.S a.cps.toList = a := SX.S_tl a
  have eb : SX.S b.cps.toList = b := SX.S_tl b
  rw [← ea, ← eb, SX.split_S (fun e => hne (by rw [← eb, SX.S_len, e]; rfl)) (List.all_eq_true.mpr fun c hc => decide_eq_true (Nat.lt_trans (asc_mem.mp hb c hc) (by decide)))] at hz
  obtain ⟨y, hy, rfl⟩ := List.mem_map.mp hz
  refine asc_S.mpr fun c hc => ?_
  rcases spl_mem _ _ _ y hy c hc with h | h
  · cases h
  · exact asc_mem.mp ha c h
theorem asc_join {a : Str} (ha : ascS a = true) : ∀ zs : List Str, (∀ z ∈ zs, ascS z = true) → ascS (Str.join a zs) = true
  | [], _ => rfl
  | [x], h => h x List.mem_cons_self
  | x :: y :: r, h => by
    show ascS (x ++ a ++ Str.join a (y :: r)) = true
    exact lay_app (lay_app (h x List.mem_cons_self) ha) (asc_join ha (y :: r) fun z hz => h z (List.mem_cons_of_mem _ hz))
theorem asc_upper {a : Str} (ha : ascS a = true) : ascS (Txt.upper a) = true := by
  have ea : SX.S a.cps.toList = a := SX.S_tl a
  have h := asc_mem.mp ha
  rw [← ea, SX.upper_S (List.all_eq_true.mpr fun c hc => decide_eq_true (h c hc))]
  refine asc_S.mpr fun c hc => ?_
  obtain ⟨d, hd, rfl⟩ := List.mem_map.mp hc
  have := h d hd
  unfold PyProof.Rows.up1
  split <;> omega
theorem asc_chars {s : String} (h : ∀ c ∈ s.toList, c.toNat < 128) : ascS (Str.ofString s) = true := by
  refine asc_mem.mpr fun c hc => ?_
  have e : (Str.ofString s).cps.toList = s.toList.map Char.toNat := cpsOfBytes_string s
  rw [e] at hc
  obtain ⟨d, hd, rfl⟩ := List.mem_map.mp hc
  exact h d hd
theorem asc_nat (n : Nat) : ∀ c ∈ (Nat.repr n).toList, c.toNat < 128 := fun c hc => by
  have hc : c ∈ Nat.toDigits 10 n := by
    rw [Nat.repr, String.toList_ofList] at hc
    exact hc
  have h := Nat.isDigit_of_mem_toDigits (by decide) (by decide) hc
  unfold Char.isDigit at h
  rw [Bool.and_eq_true, decide_eq_true_eq, decide_eq_true_eq] at h
  have : c.val.toNat ≤ (57 : UInt32).toNat := h.2
  show c.val.toNat < 128
  exact Nat.lt_of_le_of_lt this (by decide)
theorem asc_int (i : Int) : ascS (Str.ofString (toString i)) = true := by
  refine asc_chars fun c hc => ?_
  cases i with
  | ofNat n => exact asc_nat n c hc
  | negSucc n =>
    have e : toString (Int.negSucc n) = "-" ++ (n + 1).repr := rfl
    rw [e, String.toList_append] at hc
    rcases List.mem_append.mp hc with h | h
    · have : c = '-' := by simpa using h
      rw [this]; decide
    · exact asc_nat (n + 1) c h

theorem asc_TF (b : Bool) : ascS (if b = true then .ofString "True" else .ofString "False") = true := by cases b <;> decide +kernel
theorem call_str_bool {X : Cx} : CallR X (.type "str") (fun xs H Q => ∃ b, xs = [.bl b] ∧ Q (.str (if b = true then .ofString "True" else .ofString "False")) H) := by
  intro pins s σ H xs us Q I r h
  obtain ⟨b, rfl, q⟩ := h
  obtain ⟨u, rfl, rfl⟩ := vals1 r
  exact PySem.P.str_of_bool ⟨.str _, H, I.tok _, ⟨_, rfl⟩, q⟩
/-! ### built-ins -/
inductive ROs (K : PySem.W.Frag) (av hd : List Addr) (H : Hp) : List V → Ds → Prop
  | nil : ROs K av hd H [] []
  | cons {x : V} {xs : List V} {d : D} {ds : Ds} : RO K av hd H x d → ROs K av hd H xs ds → ROs K av hd H (x :: xs) (d :: ds)
section
variable {X : Cx} {L : Link} {T : List (Addr × Str)} {K : PySem.W.Frag} {fa : Nat → Option Addr} {av hd : List Addr} {H H0 : Hp} {m : Mem} {x y : V} {v : SV} {d e : D} {Q : VK}
theorem intsOf_dI : ∀ {ds : Ds} {ns : List Int}, intsOf ds = some ns → ds = dI ns
  | [], _, e => by cases e; rfl
  | d :: ds, ns, e => by
    cases d with
    | int i =>
      unfold intsOf at e
      cases q : intsOf ds with
      | none => rw [q] at e; cases e
      | some r => rw [q] at e; cases e; rw [intsOf_dI q]; rfl
    | _ => simp [intsOf] at e
theorem intsOf_len {ds : Ds} {ns : List Int} (h : intsOf ds = some ns) : ns.length = ds.length := by rw [intsOf_dI h]; simp [dI]
theorem blt_ok (b : Bi) (hb : b ≠ .sset) (hc : X.calm = true) (hu : X.A.units + 65 < cLine) (rm : RM T X.K av hd H m) (g0 : Gr av H0 H) {xs : List V} {ds : Ds} (hx : ROs X.K av hd H xs ds) (hv : bltD b ds = some v)
    (q : ∀ H' z, Gr av H H' → RM T X.K av hd H' m → RV X.K fa av hd H0 H' z v → Q z H') : wpC X (biV b) xs H Q := by
  unfold bltD at hv
  split at hv
  · cases hv
    cases hx with | cons h r => cases r with | nil =>
    obtain ⟨a, zs, rfl, sx, rx⟩ := h.tup
    refine wpC_of call_len_seq ⟨a, zs, rfl, .inr (sqT_le hide_le sx), ?_⟩
    rw [rx.1.len]
    exact q H _ .refl rm (rp_int _)
  · cases hv
    cases hx with | cons h r => cases r with | nil =>
    obtain ⟨a, zs, rfl, na, ea, rx⟩ := h
    refine wpC_of call_len_seq ⟨a, zs, rfl, .inl (.of ea), ?_⟩
    rw [rx.1.len]
    exact q H _ .refl rm (rp_int _)
  · split at hv
    · cases hv
      cases hx with | cons h r => cases r with | nil =>
      cases h.str
      exact wpC_of call_len_str ⟨_, rfl, lim_line (by assumption), q H _ .refl rm (rp_int _)⟩
    · cases hv
  · cases hv
    cases hx with | cons h r => cases r with | nil =>
    cases h.int
    exact wpC_of call_int1 (.inl ⟨_, rfl, q H _ .refl rm (rp_int _)⟩)
  · split at hv
    · rename_i hl
      cases hx with | cons h r => cases r with | nil =>
      cases h.str
      rename_i z
      cases e : PySem.intText? z with
      | none => rw [e] at hv; cases hv
      | some n =>
        rw [e] at hv; cases hv
        exact wpC_of call_int_str ⟨_, n, rfl, e, hl, q H _ .refl rm (rp_int _)⟩
    · cases hv
  · split at hv
    · cases hv
      cases hx with | cons h r => cases r with | nil =>
      cases h.int
      exact wpC_of call_str_int ⟨_, rfl, by assumption, q H _ .refl rm ⟨.str _, asc_int _⟩⟩
    · cases hv
  · cases hv
    cases hx with | cons h r => cases r with | nil =>
    cases h.int
    exact wpC_of call_abs ⟨_, rfl, q H _ .refl rm (rp_int _)⟩
  · cases hv
    cases hx with | cons h r => cases r with | cons h2 r => cases r with | nil =>
    cases h.int; cases h2.int
    exact wpC_of (call_min2 hc) ⟨_, _, rfl, q H _ .refl rm (rp_int _)⟩
  · cases hv
    cases hx with | cons h r => cases r with | cons h2 r => cases r with | nil =>
    cases h.int; cases h2.int
    exact wpC_of (call_max2 hc) ⟨_, _, rfl, q H _ .refl rm (rp_int _)⟩
  · split at hv
    · cases hv
      rename_i ds x r e
      cases hx with | cons h r => cases r with | nil =>
      obtain ⟨a, zs, rfl, na, ea, rx⟩ := h
      rw [dqAll_ints e rx.1] at ea
      refine wpC_of (cr_min hc) ⟨a, _, rfl, .of ea, by simp, fun k k1 k2 => ?_⟩
      obtain ⟨p1, p2⟩ := min_mem x r
      have : k = minI x r := by
        have := k2 _ p1; have := p2 _ k1; omega
      rw [this]
      exact q H _ .refl rm (rp_int _)
    · cases hv
  · split at hv
    · cases hv
      rename_i ds x r e
      cases hx with | cons h r => cases r with | nil =>
      obtain ⟨a, zs, rfl, na, ea, rx⟩ := h
      rw [dqAll_ints e rx.1] at ea
      refine wpC_of (cr_max hc) ⟨a, _, rfl, .of ea, by simp, fun k k1 k2 => ?_⟩
      obtain ⟨p1, p2⟩ := max_mem x r
      have : k = maxI x r := by
        have := k2 _ p1; have := p2 _ k1; omega
      rw [this]
      exact q H _ .refl rm (rp_int _)
    · cases hv
  · cases hv
    cases hx with | cons h r => cases r with | nil =>
    obtain ⟨a, zs, rfl, sx, rx⟩ := h.tup
    exact wpC_of call_list_of ⟨a, zs, rfl, .inr (sqT_le hide_le sx), fun p n => q _ _ (Gr.new n) (rm.new n) (new_own rm g0 n rx)⟩
  · cases hv
    cases hx with | cons h r => cases r with | nil =>
    obtain ⟨a, zs, rfl, na, ea, rx⟩ := h
    exact wpC_of call_list_of ⟨a, zs, rfl, .inl (.of ea), fun p n => q _ _ (Gr.new n) (rm.new n) (new_own rm g0 n rx)⟩
  · cases hv
    cases hx with | cons h r => cases r with | nil =>
    obtain ⟨a, zs, rfl, na, ea, rx⟩ := h
    exact wpC_of call_tuple_of ⟨a, zs, rfl, .inl ⟨.of ea, fun p n => q _ _ (Gr.new n) (rm.new n) (new_tup rm n rx)⟩⟩
  · cases hv
    cases hx with | cons h r => cases r with | nil =>
    obtain ⟨a, zs, rfl, sx, rx⟩ := h.tup
    exact wpC_of call_tuple_of ⟨a, zs, rfl, .inr ⟨sqT_le hide_le sx, q H _ .refl rm ⟨.tup sx rx.1, lay_tup.mpr rx.2⟩⟩⟩
  · rename_i ds
    cases hx with | cons h r => cases r with | nil =>
    obtain ⟨a, zs, rfl, na, ea, rx⟩ := h
    unfold sortedD at hv
    split at hv
    · cases e : intsOf ds with
      | none =>
        rw [e] at hv
        simp only at hv
        cases e2 : tupsOf ds with
        | none => rw [e2] at hv; cases hv
        | some ts =>
          rw [e2] at hv
          simp only at hv
          split at hv
          · rename_i hk
            cases hv
            obtain ⟨ks, rfl, rfl, e5⟩ := tups_back e2 rx.1
            refine wpC_I fun I => ?_
            have inj : ∀ p ∈ ks, ∀ q ∈ ks, p.1 = q.1 → p.2 = q.2 := fun p hp q hq ee => by
              have a1 := sqT_le hide_le (e5 p hp)
              have a2 := sqT_le hide_le (e5 q hq)
              rw [ee] at a1
              exact map_inj (I.tuple_inj a1 a2)
            let kf : V → List Int := fun x => ((ks.find? fun p => decide (V.ref p.1 = x)).map (·.2)).getD []
            have kf_ok : ∀ p ∈ ks, kf (V.ref p.1) = p.2 := fun p hp => by
              show (((ks.find? fun q => decide (V.ref q.1 = V.ref p.1)).map (·.2)).getD []) = p.2
              cases hf : ks.find? fun q => decide (V.ref q.1 = V.ref p.1) with
              | none =>
                have := List.find?_eq_none.mp hf p hp
                simp at this
              | some q =>
                have h1 := List.find?_some hf
                have h1 : V.ref q.1 = V.ref p.1 := of_decide_eq_true h1
                injection h1 with h1
                exact inj q (List.mem_of_find?_eq_some hf) p hp h1
            have hmap : ∀ {ys : List V}, (∀ y ∈ ys, ∃ p ∈ ks, y = V.ref p.1) → DqAll X.K (hide hd H) ys (dT (ys.map kf)) := fun {ys} => by
              induction ys with
              | nil => intro _; exact .nil
              | cons y ys ih =>
                intro h
                obtain ⟨p, hp, rfl⟩ := h y List.mem_cons_self
                refine .cons ?_ (ih fun z hz => h z (List.mem_cons_of_mem _ hz))
                rw [kf_ok p hp]
                exact .tup (e5 p hp) (DqAll.nums _)
            refine wpC_of (cr_sortLT hu) ⟨a, ks.map (fun p => V.ref p.1), kf, rfl, .of ea, fun x hx => ?_, fun ys p pm so n => ?_⟩
            · obtain ⟨p, hp, rfl⟩ := List.mem_map.mp hx
              exact ⟨p.1, rfl, by rw [kf_ok p hp]; exact sqT_le hide_le (e5 p hp)⟩
            · have hy : ∀ y ∈ ys, ∃ p ∈ ks, y = V.ref p.1 := fun y hy => by
                obtain ⟨p, hp, e⟩ := List.mem_map.mp (pm.mem_iff.mp hy)
                exact ⟨p, hp, e.symm⟩
              have ek : ys.map kf = sortT (ks.map (·.2)) := by
                refine srT_uniq so (sortT_sr _) ((pm.map kf).trans (List.Perm.trans ?_ (sortT_perm _).symm))
                rw [List.map_map]
                exact List.Perm.of_eq (List.map_congr_left fun p hp => kf_ok p hp)
              rw [← ek] at q
              exact q _ _ (Gr.new n) (rm.new n) (new_own rm g0 n ⟨hmap hy, lay_dT _⟩)
          · cases hv
      | some ns =>
        rw [e] at hv; cases hv
        rw [dqAll_ints e rx.1] at ea
        refine wpC_of cr_sortedI ⟨a, ns, rfl, .of ea, fun ns' p p1 p2 n => ?_⟩
        rw [sorted_uniq p2 (sortI_sorted ns) (p1.trans (sortI_perm ns).symm)]
        exact q _ _ (Gr.new n) (rm.new n) (new_own rm g0 n ⟨DqAll.nums _, layAll_ints _⟩)
    · cases hv
  · cases hv
    cases hx with | cons h r => cases r with | nil =>
    cases h.bl
    exact wpC_of call_bool1 (.inr ⟨_, rfl, q H _ .refl rm (rp_bl _)⟩)
  · cases hv
    cases hx with | cons h r => cases r with | nil =>
    cases h.bl
    exact wpC_of call_str_bool ⟨_, rfl, q H _ .refl rm ⟨.str _, asc_TF _⟩⟩
  · cases hv
end
end Tn

set_option maxRecDepth 100000
set_option maxHeartbeats 1000000
/-! Tn8: isinstance, methods of texts, sorted(set(..)), is. -/
namespace Tn
open PySem PySem.Spec PyProof.Rows L2
def tyN : Ty → String
  | .int => "int" | .str => "str" | .tuple => "tuple" | .bool => "bool" | .list => "list"
def tyS : Ty → Str
  | .int => "int" | .str => "str" | .tuple => "tuple" | .bool => "bool" | .list => "list"
theorem ty_boot (t : Ty) : bootBuiltins (tyS t) = some (.type (tyN t)) := by cases t <;> decide +kernel
def dTy : D → String
  | .none => "NoneType" | .bool _ => "bool" | .int _ => "int" | .str _ => "str" | .list _ => "list" | .tuple _ => "tuple" | .dict _ => "dict"
theorem kit_dt (K : PySem.W.Frag) : ∀ (d : D) (t : Ty), Lay d → PySem.W.kitOne K (.type (dTy d)) (.type (tyN t)) = some (isiD d t)
  | .none, .int, _ => kit_ty (a := "NoneType") (b := "int") (r := false) (by decide +kernel)
  | .none, .str, _ => kit_ty (a := "NoneType") (b := "str") (r := false) (by decide +kernel)
  | .none, .tuple, _ => kit_ty (a := "NoneType") (b := "tuple") (r := false) (by decide +kernel)
  | .none, .bool, _ => kit_ty (a := "NoneType") (b := "bool") (r := false) (by decide +kernel)
  | .none, .list, _ => kit_ty (a := "NoneType") (b := "list") (r := false) (by decide +kernel)
  | .bool _, .int, _ => kit_ty (a := "bool") (b := "int") (r := true) (by decide +kernel)
  | .bool _, .str, _ => kit_ty (a := "bool") (b := "str") (r := false) (by decide +kernel)
  | .bool _, .tuple, _ => kit_ty (a := "bool") (b := "tuple") (r := false) (by decide +kernel)
  | .bool _, .bool, _ => kit_ty (a := "bool") (b := "bool") (r := true) (by decide +kernel)
  | .bool _, .list, _ => kit_ty (a := "bool") (b := "list") (r := false) (by decide +kernel)
  | .int _, .int, _ => kit_ty (a := "int") (b := "int") (r := true) (by decide +kernel)
  | .int _, .str, _ => kit_ty (a := "int") (b := "str") (r := false) (by decide +kernel)
  | .int _, .tuple, _ => kit_ty (a := "int") (b := "tuple") (r := false) (by decide +kernel)
  | .int _, .bool, _ => kit_ty (a := "int") (b := "bool") (r := false) (by decide +kernel)
  | .int _, .list, _ => kit_ty (a := "int") (b := "list") (r := false) (by decide +kernel)
  | .str _, .int, _ => kit_ty (a := "str") (b := "int") (r := false) (by decide +kernel)
  | .str _, .str, _ => kit_ty (a := "str") (b := "str") (r := true) (by decide +kernel)
  | .str _, .tuple, _ => kit_ty (a := "str") (b := "tuple") (r := false) (by decide +kernel)
  | .str _, .bool, _ => kit_ty (a := "str") (b := "bool") (r := false) (by decide +kernel)
  | .str _, .list, _ => kit_ty (a := "str") (b := "list") (r := false) (by decide +kernel)
  | .list _, .int, _ => kit_ty (a := "list") (b := "int") (r := false) (by decide +kernel)
  | .list _, .str, _ => kit_ty (a := "list") (b := "str") (r := false) (by decide +kernel)
  | .list _, .tuple, _ => kit_ty (a := "list") (b := "tuple") (r := false) (by decide +kernel)
  | .list _, .bool, _ => kit_ty (a := "list") (b := "bool") (r := false) (by decide +kernel)
  | .list _, .list, _ => kit_ty (a := "list") (b := "list") (r := true) (by decide +kernel)
  | .tuple _, .int, _ => kit_ty (a := "tuple") (b := "int") (r := false) (by decide +kernel)
  | .tuple _, .str, _ => kit_ty (a := "tuple") (b := "str") (r := false) (by decide +kernel)
  | .tuple _, .tuple, _ => kit_ty (a := "tuple") (b := "tuple") (r := true) (by decide +kernel)
  | .tuple _, .bool, _ => kit_ty (a := "tuple") (b := "bool") (r := false) (by decide +kernel)
  | .tuple _, .list, _ => kit_ty (a := "tuple") (b := "list") (r := false) (by decide +kernel)
  | .dict _, _, h => by simp [Lay, asc] at h
section
variable {X : Cx} {L : Link} {T : List (Addr × Str)} {K : PySem.W.Frag} {fa : Nat → Option Addr} {av hd : List Addr} {H H0 : Hp} {m : Mem} {x y : V} {v : SV} {d e : D} {Q : VK}
theorem RO.ty (h : RO K av hd H x d) : TyX K H x (.type (dTy d)) := by
  cases d with
  | none => cases h.non; exact .base .non
  | bool b => cases h.bl; exact .base (.bl _)
  | int i => cases h.int; exact .base (.int _)
  | str z => cases h.str; exact .base (.str _)
  | list ds =>
    obtain ⟨a, xs, rfl, na, ea, r⟩ := h
    exact .base (.lst ea)
  | tuple ds =>
    obtain ⟨a, xs, rfl, sx, r⟩ := h.tup
    rcases sqT_le hide_le sx with (q | ⟨o, q⟩) | ⟨o, its, n, q, c, _⟩
    · exact .base (.tup q)
    · exact .fTuple q
    · exact .kTuple q c
  | dict kvs => have := h.lay; simp [Lay, asc] at this
theorem isi_ok (hx : RO X.K av hd H x d) (t : Ty) (q : Q (.bl (isiD d t)) H) : wpC X (.builtin "isinstance") [x, .ty (tyN t)] H Q :=
  wpC_of call_isi ⟨x, .ty (tyN t), _, _, _, rfl, .ty _, hx.ty, kit_dt X.K d t hx.lay, q⟩
/-! ### x is True -/
theorem isb_rule {M : Model} {A : Around} {E : Value → Shared → Prop} {v : Value} {b : Bool} {s : Shared} {Q : Value → Shared → Prop} (r : RelV x v) (h : Q (.bool (v == .bool b)) s) : wpAny M A (compareOp .Is v (.bool b)) Q E s := by
  cases x with
  | non => cases r; exact wpAny_pure h
  | bl c => cases r; exact wpAny_pure h
  | int _ => obtain ⟨t, rfl⟩ := r; exact wpAny_pure h
  | str _ => obtain ⟨t, rfl⟩ := r; exact wpAny_pure h
  | byt _ => obtain ⟨t, rfl⟩ := r; exact wpAny_pure h
  | flt _ => obtain ⟨t, rfl⟩ := r; exact wpAny_pure h
  | ref _ => cases r; exact wpAny_pure h
  | ty _ => cases r; exact wpAny_pure h
theorem RelV.bool_iff {x : V} {v : Value} (r : RelV x v) (b : Bool) : (v == Value.bool b) = decide (x = .bl b) := by
  cases x with
  | non => cases r; rfl
  | bl c => cases r; cases b <;> cases c <;> rfl
  | int _ => obtain ⟨t, rfl⟩ := r; rfl
  | str _ => obtain ⟨t, rfl⟩ := r; rfl
  | byt _ => obtain ⟨t, rfl⟩ := r; rfl
  | flt _ => obtain ⟨t, rfl⟩ := r; rfl
  | ref _ => cases r; rfl
  | ty _ => cases r; rfl
theorem isb_ok (hx : RO X.K av hd H x d) (b : Bool) (q : Q (.bl (isBk b d)) H) : wpO X (compareOp .Is) x (.bl b) H Q := by
  intro pins s σ v u I r1 r2
  cases r2
  refine isb_rule r1 ⟨.bl _, H, I, rfl, ?_⟩
  rw [RelV.bool_iff r1]
  cases d with
  | bool k =>
    cases hx.bl
    have e : decide (V.bl k = .bl b) = (k == b) := by cases k <;> cases b <;> rfl
    rw [e]; exact q
  | none => cases hx.non; exact q
  | int i => cases hx.int; exact q
  | str i => cases hx.str; exact q
  | list ds => obtain ⟨a, xs, rfl, _⟩ := hx; exact q
  | tuple ds => obtain ⟨a, xs, rfl, _⟩ := hx.tup; exact q
  | dict _ => have := hx.lay; simp [Lay, asc] at this
/-! ### methods of texts -/
theorem split_ok {a b : Str} (rm : RM T X.K av hd H m) (g0 : Gr av H0 H) (ha : ascS a = true) (hb : ascS b = true) (hne : b.length ≠ 0)
    (q : ∀ H' z, Gr av H H' → RM T X.K av hd H' m → RV X.K fa av hd H0 H' z (.own ((Txt.split a b).map PyData.str)) → Q z H') : rNewStrs (Txt.split a b) H Q := fun p n =>
  q _ _ (Gr.new n) (rm.new n) (new_own rm g0 n ⟨DqAll.strs _, asc_split ha hb hne⟩)
end
end Tn

set_option maxRecDepth 100000
set_option maxHeartbeats 1000000
/-! Tn9: which text is which term; what a link has to keep. -/
namespace Tn
open PySem PySem.Spec PyProof.Rows L2

/-! ### shapes -/
/-- no star, no slice, no set -/
def sh : Expr → Bool
  | .Starred .. => false
  | .Slice .. => false
  | .Set .. => false
  | _ => true
section
variable {env : Env} {e : Expr} {es : List Expr}
theorem star_ok (h : sh e = true) : starEach (e :: es) env = (false, eval e env) :: starEach es env := by
  cases e <;> first | rfl | (simp [sh] at h)
theorem star_all (h : es.all sh = true) : starEach es env = es.map fun e => (false, eval e env) := by
  induction es with
  | nil => rfl
  | cons e r ih =>
    simp only [List.all_cons, Bool.and_eq_true] at h
    rw [star_ok h.1, ih h.2]; rfl
theorem star_any {pos : Pos} (h : es.all sh = true) : (backTo pos (starEach es env)).any (·.1) = false := by
  rw [star_all h]
  unfold backTo
  rw [List.map_map]
  induction es with
  | nil => rfl
  | cons e r ih =>
    simp only [List.all_cons, Bool.and_eq_true] at h
    rw [List.map_cons, List.any_cons, ih h.2]; rfl
theorem star_few {pos : Pos} (h : es.all sh = true) (hl : es.length < 20) : ((backTo pos (starEach es env)).all (fun x => !x.1) && (backToKw pos (keywordEach [] env)).all (fun x => x.1.isSome)
    && decide (es.length + ([] : List Keyword).length + (if ([] : List Keyword).isEmpty then 0 else 1) < 30)) = true := by
  have h1 : (backTo pos (starEach es env)).all (fun x => !x.1) = true := by
    have q := star_any (pos := pos) (env := env) h
    rw [List.any_eq_false] at q
    rw [List.all_eq_true]
    intro x hx
    have := q x hx
    simpa using this
  rw [h1, Bool.true_and]
  have : decide (es.length + ([] : List Keyword).length + (if ([] : List Keyword).isEmpty then 0 else 1) < 30) = true := decide_eq_true (by show es.length + 0 + 0 < 30; omega)
  rw [this]; rfl
theorem plain_ok (h : sh e = true) : PlainIx e := by
  intro o i
  cases e <;> first | rfl | (simp [sh] at h)
theorem behind_ok {op : CmpOp} (h : sh e = true) : behindInMarks op e = false := by
  cases e <;> first | rfl | (simp [sh] at h)
theorem folded_ok (h : sh e = true) (x : Value) : foldedSetIterable e env x = pure x := by
  cases e <;> first | rfl | (simp [sh] at h)
/-- no call without arguments of a bare name: such a one may be super() -/
def noSup : Expr → Bool
  | .Call (.Name _ _) [] [] _ => false
  | _ => true
theorem base_ok {n : Str} (h : noSup e = true) : attributeBase e n env (eval e env) = eval e env := by
  unfold attributeBase
  split
  · simp [noSup] at h
  · rfl
/-- as a test: its value's truth -/
def plainT : Expr → Bool
  | .UnaryOp .Not _ _ => false
  | .BoolOp .. => false
  | .IfExp .. => false
  | .Compare .. => false
  | _ => true
theorem plainT_ok (h : plainT e = true) (whole : Sem Value) : isTrue e env whole = (do let v ← whole; standAt e.pos; holding [v] (truthy v)) := by
  cases e with
  | UnaryOp op a p => cases op <;> first | rfl | (simp [plainT] at h)
  | BoolOp => simp [plainT] at h
  | IfExp => simp [plainT] at h
  | Compare => simp [plainT] at h
  | _ => rfl
end

/-! ### the checker -/
def visB (N : List Str) (sc : Scope) (i : Nat) (x : Str) : Bool :=
  decide (N[i]? = some x) && (decide (sc.names.lookup x = some .local) || decide (sc.names.lookup x = some .cell) || decide (sc.names.lookup x = some .free)) && !(x == ("__debug__" : Str)) && !(x == ("__classdict__" : Str))
def glB (sc : Scope) (x : Str) : Bool := decide (sc.names.lookup x = some .globalImplicit) && !(x == ("__debug__" : Str)) && !(x == ("__name__" : Str))
def cstB : D → Const → Bool
  | .none, .none => true
  | .bool a, .bool b => a == b
  | .int a, .int b => a == b
  | .str a, .str b => a == b && ascS a
  | _, _ => false
def mtN : Mt → Str
  | .join => "join" | .split => "split" | .upper => "upper" | .index => "index"
def tgB (lo : Bool) (N : List Str) (sc : Scope) (own : List Nat) : Tg → Expr → Bool
  | .one i, .Name x _ => visB N sc i x && own.contains i && (decide (sc.names.lookup x = some .local) || (!lo && decide (sc.names.lookup x = some .cell)))
  | .tup is, .Tuple es _ _ => is.length == es.length && (is.zip es).all fun p => match p.2 with
    | .Name x _ => visB N sc p.1 x && own.contains p.1 && (decide (sc.names.lookup x = some .local) || (!lo && decide (sc.names.lookup x = some .cell)))
    | _ => false
  | _, _ => false
mutual
/-- may it stand as a test? -/
def tst : E → Bool
  | .ite .. => false
  | .tnot _ => false
  | .ands es => tstA es
  | .ors es => tstA es
  | .not a => tst a
  | _ => true
def tstA : Es → Bool
  | .nil => true
  | .cons e es => tst e && tstA es
end
def nmOf : Expr → Str
  | .Name z _ => z
  | _ => ⟨#[]⟩
def tgNames : Expr → List Str
  | .Name z _ => [z]
  | .Tuple es _ _ => es.map nmOf
  | _ => []
/-- own names of a comprehension's scope -/
def tgC (scope : Scope) (t : Expr) : Bool := (tgNames t).all fun z => decide (scope.names.lookup z = some .local) || decide (scope.names.lookup z = some .cell)
def isTup : Expr → Bool
  | .Tuple .. => true
  | _ => false
def isNonC : Expr → Bool
  | .Constant .none _ _ => true
  | _ => false
section
variable (L : Nms)
mutual
def ckE (lb : Bool) (N : List Str) (sc : Scope) : E → Expr → Bool
  | .var i, src => match src with
    | .Name x _ => visB N sc i x
    | _ => false
  | .cst d, src => match src with
    | .Constant c _ _ => cstB d c
    | _ => false
  | .glo g, src => match src with
    | .Name x _ => decide (L.gn g = some x) && glB sc x
    | _ => false
  | .fnr n, src => match src with
    | .Name x _ => decide (L.nm n = some x) && glB sc x
    | _ => false
  | .pow a b, src => match src with
    | .BinOp (.Constant (.int i) _ _) .Pow (.Constant (.int j) _ _) _ => i == (a : Int) && j == (b : Int) && decide (b ≤ 1000) && decide (a < 1000)
    | _ => false
  | .bin o a b, src => match src with
    | .BinOp a' op b' _ => decide (op = opOf o) && ckE lb N sc a a' && ckE lb N sc b b'
    | _ => false
  | .neg a, src => match src with
    | .UnaryOp .USub a' _ => ckE lb N sc a a'
    | _ => false
  | .cmp o a b, src => match src with
    | .Compare a' [op] [b'] _ => decide (op = coOf o) && ckE lb N sc a a' && ckE lb N sc b b' && sh b' && !isNonC b'
    | _ => false
  | .chn a o b o2 e, src => match src with
    | .Compare a' [op, op2] [b', e'] _ => decide (op = coOf o) && decide (op2 = coOf o2) && ckE lb N sc a a' && ckE lb N sc b b' && ckE lb N sc e e' && sh b' && sh e'
    | _ => false
  | .isn ng a, src => match src with
    | .Compare a' [op] [.Constant .none _ _] _ => decide (op = if ng then CmpOp.IsNot else CmpOp.Is) && ckE lb N sc a a'
    | _ => false
  | .isb a b, src => match src with
    | .Compare a' [.Is] [.Constant (.bool k) _ _] _ => b == k && ckE lb N sc a a'
    | _ => false
  | .ands es, src => match src with
    | .BoolOp .And vs _ => !vs.isEmpty && ckEs lb N sc es vs
    | _ => false
  | .ors es, src => match src with
    | .BoolOp .Or vs _ => !vs.isEmpty && ckEs lb N sc es vs
    | _ => false
  | .not a, src => match src with
    | .UnaryOp .Not a' _ => ckE lb N sc a a'
    | _ => false
  | .ite t a b, src => match src with
    | .IfExp t' a' b' _ => tst t && ckE lb N sc t t' && ckE lb N sc a a' && ckE lb N sc b b'
    | _ => false
  | .tup es, src => match src with
    | .Tuple vs _ _ => vs.all sh && ckEs lb N sc es vs
    | _ => false
  | .lst es, src => match src with
    | .List vs _ => vs.all sh && ckEs lb N sc es vs
    | _ => false
  | .idx a b, src => match src with
    | .Subscript a' b' _ => sh b' && ckE lb N sc a a' && ckE lb N sc b b'
    | _ => false
  | .slo a b, src => match src with
    | .Subscript a' (.Slice (some b') none none _) _ => ckE lb N sc a a' && ckE lb N sc b b'
    | _ => false
  | .shi a b, src => match src with
    | .Subscript a' (.Slice none (some b') none _) _ => ckE lb N sc a a' && ckE lb N sc b b'
    | _ => false
  | .rev a, src => match src with
    | .Subscript a' (.Slice none none (some (.UnaryOp .USub (.Constant (.int 1) _ _) _)) _) _ => ckE lb N sc a a'
    | _ => false
  | .call n es, src => match src with
    | .Call (.Name x _) vs [] _ => decide (L.nm n = some x) && glB sc x && vs.all sh && ckEs lb N sc es vs
    | _ => false
  | .cav i es, src => match src with
    | .Call (.Name x _) vs [] _ => visB N sc i x && vs.all sh && !vs.isEmpty && ckEs lb N sc es vs
    | _ => false
  | .blt b es, src => match src with
    | .Call (.Name x _) vs [] _ => decide (b ≠ .sset) && decide (x = biN b) && glB sc x && vs.all sh && !vs.isEmpty && ckEs lb N sc es vs
    | _ => false
  | .sse a, src => match src with
    | .Call (.Name x _) [.Call (.Name y _) [a'] [] _] [] _ => decide (x = ("sorted" : Str)) && decide (y = ("set" : Str)) && glB sc x && glB sc y && sh a' && ckE lb N sc a a'
    | _ => false
  | .lrg a, src => match src with
    | .Call (.Name x _) [.Call (.Name y _) [a'] [] _] [] _ => decide (x = ("list" : Str)) && decide (y = ("range" : Str)) && glB sc x && glB sc y && sh a' && ckE lb N sc a a'
    | _ => false
  | .trg a, src => match src with
    | .Call (.Name x _) [.Call (.Name y _) [a'] [] _] [] _ => decide (x = ("tuple" : Str)) && decide (y = ("range" : Str)) && glB sc x && glB sc y && sh a' && ckE lb N sc a a'
    | _ => false
  | .isi a t, src => match src with
    | .Call (.Name x _) [a', .Name y _] [] _ => decide (x = ("isinstance" : Str)) && decide (y = tyS t) && glB sc x && glB sc y && sh a' && ckE lb N sc a a'
    | _ => false
  | .joi a b, src => match src with
    | .Call (.Attribute a' n ap) [b'] [] cp => decide (n = ("join" : Str)) && noSup a' && (ap.endLine == cp.line) && sh b' && ckE lb N sc a a' && ckE lb N sc b b'
    | _ => false
  | .spl a b, src => match src with
    | .Call (.Attribute a' n ap) [b'] [] cp => decide (n = ("split" : Str)) && noSup a' && (ap.endLine == cp.line) && sh b' && ckE lb N sc a a' && ckE lb N sc b b'
    | _ => false
  | .upp a, src => match src with
    | .Call (.Attribute a' n ap) [] [] cp => decide (n = ("upper" : Str)) && noSup a' && (ap.endLine == cp.line) && ckE lb N sc a a'
    | _ => false
  | .kdc g a, src => match src with
    | .Subscript (.Name x _) a' _ => decide (L.kn g = some x) && glB sc x && sh a' && ckE lb N sc a a'
    | _ => false
  | .cm1 elt tg it own ts, src => match src with
    | .ListComp elt' [⟨tg', it', ifs, 0⟩] scope _ => blkC N sc scope (own.filterMap fun i => (N[i]?).map fun x => (x, i)) && own.all (fun i => decide (i < N.length)) && tgB false N (relS scope sc) own tg tg' && tgC scope tg' && ckI lb N sc it it' tg' && tstA ts && ckEs lb N (relS scope sc) ts ifs && ckE lb N (relS scope sc) elt elt' && decide (ifs.length ≤ 1)
    | _ => false
  | .cm2 elt tg it tg2 it2 own own2 ts, src => match src with
    | .ListComp elt' [⟨tg', it', [], 0⟩, ⟨tg2', it2', ifs, 0⟩] scope _ => blkC N sc scope (own.filterMap fun i => (N[i]?).map fun x => (x, i)) && own.all (fun i => decide (i < N.length)) && own2.all (fun i => own.contains i) && tgB false N (relS scope sc) own tg tg' && tgC scope tg' && tgB false N (relS scope sc) own2 tg2 tg2' && tgC scope tg2' && ckI lb N sc it it' tg' && ckI lb N (relS scope sc) it2 it2' tg2' && tstA ts && ckEs lb N (relS scope sc) ts ifs && ckE lb N (relS scope sc) elt elt' && decide (ifs.length ≤ 1)
    | _ => false
  | .ler body, src => match src with
    | .Call (.Name x _) [.Lambda ⟨[], [], none, [], [], none, []⟩ body' scope _] [] _ => lb && decide (L.le = some x) && glB sc x && LamX.lamSB sc scope && ckE false N scope body body'
    | _ => false
  | .tnot a, src => match src with
    | .UnaryOp .Not a' _ => ckE lb N sc a a'
    | _ => false
def ckEs (lb : Bool) (N : List Str) (sc : Scope) : Es → List Expr → Bool
  | .nil, [] => true
  | .cons e es, v :: vs => ckE lb N sc e v && ckEs lb N sc es vs
  | _, _ => false
def ckI (lb : Bool) (N : List Str) (sc : Scope) : It → Expr → Expr → Bool
  | .dat e, v, _ => sh v && ckE lb N sc e v
  | .rng e, src, _ => match src with
    | .Call (.Name x _) [v] [] _ => decide (x = ("range" : Str)) && glB sc x && sh v && ckE lb N sc e v
    | _ => false
  | .rng2 a b, src, _ => match src with
    | .Call (.Name x _) [v, u] [] _ => decide (x = ("range" : Str)) && glB sc x && sh v && sh u && ckE lb N sc a v && ckE lb N sc b u
    | _ => false
  | .enm e, src, tg => match src with
    | .Call (.Name x _) [v] [] _ => isTup tg && decide (x = ("enumerate" : Str)) && glB sc x && sh v && ckE lb N sc e v
    | _ => false
  | .zip a b, src, tg => match src with
    | .Call (.Name x _) [v, u] [] _ => isTup tg && decide (x = ("zip" : Str)) && glB sc x && sh v && sh u && ckE lb N sc a v && ckE lb N sc b u
    | _ => false
  | .fns ns, src, _ => match src with
    | .Tuple vs _ _ => decide (ns.length ≤ 1000) && (ns.length == vs.length && (ns.zip vs).all fun p => match p.2 with
      | .Name x _ => decide (L.nm p.1 = some x) && glB sc x
      | _ => false)
    | _ => false
end
end
end Tn

set_option maxRecDepth 100000
set_option maxHeartbeats 2000000
/-! TnG: what a lambda's making leaves, where its body runs. -/
namespace TnH
open PySem PySem.Spec PyProof.Rows L2 LamX
/-- what a lambda's making leaves -/
structure Made (T : List (Addr × Str)) (H G : Hp) : Prop where
  ext : ExtN H G
  al : ∀ b, H b ≠ none → G b ≠ none
  tab : Tabs T G
/-- the lambda's body, errors of own classes told -/
def lamN (X : Cx) (A : Around) (outer : List Env) (s : Shared) (H : Hp) (E : XK) (scope : Scope) (f d : Addr) : Cx :=
  { lamCx X A outer s H E scope f d with xe := fun e s' => wpAny (model X.prog X.w) (A.deeper (lamEnv X scope s.heap.objs.size f d)) (leaving (lamEnv X scope s.heap.objs.size f d) e) (fun _ s2 => L2N.CX X.prog X.w outer H s E e s2) (fun e2 s2 => L2N.CX X.prog X.w outer H s E e2 s2) s' }
/-- what the def gives that catches what a lambda raises -/
def tLe (T : List (Addr × Str)) (er : Nat → Option Str) (ca : Nat → Addr) (t : XK → TE) : TE := fun σ H Q => Tabs T H ∧ ∀ G, Made T H G →
  t (fun cls d G1 => ∃ (c : Nat) (z : Str), cls = .ref (ca c) ∧ d = none ∧ er c = some z ∧ ∀ G2 : Hp, (∀ b o, G1 b = some o → G2 b = some o) → Q (.str z) G2) σ G (fun _ G1 => Q (.str ⟨#[]⟩) G1)
def noArgs : Arguments := ⟨[], [], none, [], [], none, []⟩
/-- where the lambda stands: the code object's table is told -/
def LamAtQ (T : List (Addr × Str)) (base : Heap) (mg : Str → Option Value) (code : Value) (q : Str) : Prop := ∃ c Pt, TabB base mg c Pt ∧ code = .ref c ∧ (Pt, q ++ "<lambda>") ∈ T ∧ ∀ p ∈ T, p.1 = Pt → p.2 = q ++ "<lambda>"
def LamAt (T : List (Addr × Str)) (X : Cx) : Prop := LamAtQ T X.base X.mg X.env.code X.env.qual
/-- the promise of z(lambda: ..) -/
def LeP (T : List (Addr × Str)) (er : Nat → Option Str) (ca : Nat → Addr) (k : Nat) (P : Program) (w : World) (K : PySem.W.Frag) (mg : Str → Option Value) (base : Heap) (z : Str) : Prop :=
  ∀ (X : Cx) (bd : Expr) (scope : Scope) (t : XK → TE) (p lpos pos : Pos), X.prog = P → X.w = w → X.K = K → X.mg = mg → X.base = base → Gl X z → (z == ("__debug__" : Str)) = false → LamAt T X → Room (k + 6) X.A → LamS X.env.scope scope →
    (∀ (A : Around) (outer : List Env) (s : Shared) (H : Hp) (E : XK) (f d : Addr), Room (k + 4) (A.deeper (lamEnv X scope s.heap.objs.size f d)) → PE (lamN X A outer s H E scope f d) bd (t E)) →
    (∀ (E E' : XK) (σ : L2.St) (H : Hp) (Q : VK), (∀ cls d G, E cls d G → E' cls d G) → t E σ H Q → t E' σ H Q) →
    PE X (.Call (.Name z p) [.Lambda noArgs bd scope lpos] [] pos) (tLe T er ca t)
end TnH

set_option maxRecDepth 100000
set_option maxHeartbeats 1000000
/-! Tn10: what each construct of an expression does is what the small language says. -/
namespace Tn
open PySem PySem.Spec PyProof.Rows L2

/-! ### frames -/
def RSl (K : PySem.W.Frag) (fa : Nat → Option Addr) (av hd : List Addr) (H : Hp) (x : V) : SV → Prop
  | .own ds => ∃ a xs, x = .ref a ∧ a ∈ hd ∧ a ∉ av ∧ H a = some (.lst xs) ∧ RpAll K hd H xs ds
  | .p _ => False
  | v => RV K fa av hd H H x v
structure REn (K : PySem.W.Frag) (fa : Nat → Option Addr) (av hd : List Addr) (H : Hp) (σ : L2.St) (env : EnvT) : Prop where
  len : env.length = σ.length
  sl : ∀ (i : Nat) (v : SV), env[i]? = some (some v) → ∃ x, σ[i]? = some (some x) ∧ RSl K fa av hd H x v
section
variable {K : PySem.W.Frag} {fa : Nat → Option Addr} {av hd : List Addr} {H H1 : Hp} {σ : L2.St} {env : EnvT} {x : V} {v : SV}
theorem RSl.gr (g : Gr av H H1) (sub : ∀ b ∈ av, b ∈ hd) (h : RSl K fa av hd H x v) : RSl K fa av hd H1 x v := by
  cases v with
  | own ds =>
    obtain ⟨a, xs, rfl, h1, h2, h3, h4⟩ := h
    exact ⟨a, xs, rfl, h1, h2, g.st _ _ h3 h2 noT_lst, h4.le (hide_gr g sub)⟩
  | p ds => exact h
  | d y => exact Rp.le h (hide_gr g sub)
  | h k => exact h
  | f n => exact h
  | s ns =>
    obtain ⟨a, rfl, q⟩ := h
    exact ⟨a, rfl, sqL_le (hide_gr g sub) q⟩
theorem REn.gr (g : Gr av H H1) (sub : ∀ b ∈ av, b ∈ hd) (r : REn K fa av hd H σ env) : REn K fa av hd H1 σ env :=
  ⟨r.len, fun i v e => by obtain ⟨x, h1, h2⟩ := r.sl i v e; exact ⟨x, h1, h2.gr g sub⟩⟩
/-- one more address is hidden: a fresh one -/
theorem RSl.new {a : Addr} (g : Gr av H H1) (sub : ∀ b ∈ av, b ∈ hd) (n : H a = none) (h : RSl K fa av hd H x v) : RSl K fa av (a :: hd) H1 x v := by
  cases v with
  | own ds =>
    obtain ⟨b, xs, rfl, h1, h2, h3, h4⟩ := h
    exact ⟨b, xs, rfl, List.mem_cons_of_mem _ h1, h2, g.st _ _ h3 h2 noT_lst, h4.le (hide_new g sub n)⟩
  | p ds => exact h
  | d y => exact Rp.le h (hide_new g sub n)
  | h k => exact h
  | f n => exact h
  | s ns =>
    obtain ⟨b, rfl, q⟩ := h
    exact ⟨b, rfl, sqL_le (hide_new g sub n) q⟩
theorem REn.new {a : Addr} (g : Gr av H H1) (sub : ∀ b ∈ av, b ∈ hd) (n : H a = none) (r : REn K fa av hd H σ env) : REn K fa av (a :: hd) H1 σ env :=
  ⟨r.len, fun i v e => by obtain ⟨x, h1, h2⟩ := r.sl i v e; exact ⟨x, h1, h2.new g sub n⟩⟩
end
inductive RVs (K : PySem.W.Frag) (fa : Nat → Option Addr) (av hd : List Addr) (H0 H : Hp) : List V → List SV → Prop
  | nil : RVs K fa av hd H0 H [] []
  | cons {x : V} {xs : List V} {v : SV} {vs : List SV} : RV K fa av hd H0 H x v → RVs K fa av hd H0 H xs vs → RVs K fa av hd H0 H (x :: xs) (v :: vs)

/-! ### what a link keeps -/
/-- what a callee may get -/
def argOk : SV → Bool
  | .own _ => false
  | .p _ => false
  | _ => true
def spF (L : Link) (K : PySem.W.Frag) (c : Nat → List SV → Mem → R SV) (n : Nat) : Sp := fun vs H Q E =>
  ∃ av hd m args, args.all argOk = true ∧ RVs K L.fa av hd H H vs args ∧ RM L.T K av hd H m ∧ Good L K av hd H E (c n args m) (fun v _ H' => ∀ x, RV K L.fa av hd H H' x v → Q x H')
def bnames : List Str := ["len", "int", "str", "abs", "min", "max", "list", "tuple", "sorted", "bool", "isinstance", "range", "enumerate", "zip", "set"]
structure LF (L : Link) (G : Glob) (c : Nat → List SV → Mem → R SV) (k : Nat) (P : Program) (w : World) (K : PySem.W.Frag) (mg : Str → Option Value) (base : Heap) : Prop where
  fn : ∀ n x, L.nm n = some x → ∃ a, L.fa n = some a ∧ mg x = some (.ref a)
  ok : ∀ n a, L.fa n = some a → PySem.W.keepIn K (.ref a) = true ∧ ∃ fd ps, Binds K fd ps [] ∧ FnOk P w K mg base (L2N.CX P w) k a fd ps (spF L K c n)
  gc : ∀ g x d, L.gn g = some x → G.gc g = some d → ∃ u v, mg x = some u ∧ RelV v u ∧ ∀ hd H, Rp K hd H v d
  bl : ∀ x ∈ bnames, mg x = none
  rz : ∀ c x, L.cn c = some x → ∀ Y : Cx, Y.prog = P → Y.w = w → Y.K = K → Y.mg = mg → Y.base = base → Gl Y x → (x == ("__debug__" : Str)) = false → ∀ (m : Str) (j : Nat) (p p2 pos : Pos), L2N.PMk Y (.Call (.Name x p) [.Constant (.str m) j p2] [] pos) (fun _ H Q => Q (.ref (L.ca c)) none H)
  kd : ∀ g x t, L.kn g = some x → G.gk g = some t → ∃ d, mg x = some (.ref d) ∧ ∀ z y, t.lookup z = some y → ∃ v0, KDct K w d z v0 ∧ ∀ hd H, Rp K hd H v0 y
  le : ∀ z, L.le = some z → TnH.LeP L.T G.er L.ca k P w K mg base z
  ea : ∀ c z, G.er c = some z → ascS z = true
structure Cok (L : Link) (G : Glob) (c : Nat → List SV → Mem → R SV) (k : Nat) (lb : Bool) (X : Cx) (W : WX) : Prop where
  lf : LF L G c k X.prog X.w X.K X.mg X.base
  calm : X.calm = true
  nd : X.N.Nodup
  room : Room (k + 4) X.A
  tk : L2N.Takes X W
  lam : lb = true → TnH.LamAt L.T X ∧ Room (k + 6) X.A
theorem Cok.hu {L : Link} {G : Glob} {c : Nat → List SV → Mem → R SV} {k : Nat} {lb : Bool} {X : Cx} {W : WX} (C : Cok L G c k lb X W) : X.A.units + 65 < cLine := by
  have := C.room.un
  omega

/-! ### soundness of a part -/
section
variable (L : Link) (X : Cx) (W : WX)
def SE (ev : EnvT → Mem → R SV) (src : Expr) : Prop := ∀ (av hd : List Addr) (σ : L2.St) (env : EnvT) (H : Hp) (m : Mem) (Q : VK), RM L.T X.K av hd H m → REn X.K L.fa av hd H σ env →
  Good L X.K av hd H (fun cls d H' => W cls d σ H') (ev env m) (fun v _ H' => ∀ x, RV X.K L.fa av hd H H' x v → Q x H') → wpE X src σ H Q
def STs (ev : EnvT → Mem → R SV) (src : Expr) : Prop := ∀ (av hd : List Addr) (σ : L2.St) (env : EnvT) (H : Hp) (m : Mem) (Q : Bool → Hp → Prop), RM L.T X.K av hd H m → REn X.K L.fa av hd H σ env →
  Good L X.K av hd H (fun cls d H' => W cls d σ H') (ev env m) (fun v _ H' => ∃ b, v = .d (.bool b) ∧ Q b H') → wpT X src σ H Q
def SA (ev : EnvT → Mem → R (List SV)) (srcs : List Expr) : Prop := ∀ (av hd : List Addr) (σ : L2.St) (env : EnvT) (H : Hp) (m : Mem) (Q : List V → Hp → Prop), RM L.T X.K av hd H m → REn X.K L.fa av hd H σ env →
  Good L X.K av hd H (fun cls d H' => W cls d σ H') (ev env m) (fun vs _ H' => ∀ xs, RVs X.K L.fa av hd H H' xs vs → Q xs H') → wpA X srcs σ H Q
end
section
variable {L : Link} {X : Cx} {W : WX} {T : List (Addr × Str)} {K : PySem.W.Frag} {fa : Nat → Option Addr} {av hd : List Addr} {H H0 H1 : Hp} {m : Mem} {x y : V} {v : SV} {d e : D} {Q : VK}
theorem vis_of {N : List Str} {sc : Scope} {i : Nat} {z : Str} (h : visB N sc i z = true) : N[i]? = some z ∧ Vis sc z ∧ (z == ("__debug__" : Str)) = false ∧ (z == ("__classdict__" : Str)) = false := by
  unfold visB at h
  simp only [Bool.and_eq_true, Bool.or_eq_true, decide_eq_true_eq, Bool.not_eq_true'] at h
  obtain ⟨⟨⟨h1, h2⟩, h3⟩, h4⟩ := h
  exact ⟨h1, h2.elim (fun h => h.elim .inl fun h => .inr (.inl h)) fun h => .inr (.inr h), h3, h4⟩
theorem gl_of {z : Str} (h : glB X.env.scope z = true) : Gl X z ∧ (z == ("__debug__" : Str)) = false ∧ z ≠ "__name__" := by
  unfold glB at h
  simp only [Bool.and_eq_true, decide_eq_true_eq, Bool.not_eq_true'] at h
  refine ⟨h.1.1, h.1.2, fun e => ?_⟩
  have := h.2
  rw [e] at this
  simp at this
/-- from a slot -/
theorem slot_rv (sub : ∀ b ∈ av, b ∈ hd) (h : RSl K fa av hd H x v) : match v with | .own ds => RV K fa av hd H H x (.p ds) | .p _ => False | v => RV K fa av hd H H x v := by
  cases v with
  | own ds =>
    obtain ⟨a, xs, e, _, na, ea, r⟩ := h
    exact ⟨a, xs, e, na, ea, r⟩
  | _ => exact h
theorem se_var {G : Glob} {c : Nat → List SV → Mem → R SV} {i : Nat} {z : Str} {pos : Pos} (h : visB X.N X.env.scope i z = true) : SE L X W (evE G c (.var i)) (.Name z pos) := by
  intro av hd σ env H m Q rm re g
  obtain ⟨h1, h2, h3, h4⟩ := vis_of h
  refine wp_of (pe_var h1 h2 h3 h4) ?_
  unfold evE at g
  cases q : env[i]? with
  | none => rw [q] at g; exact g.elim
  | some o =>
    cases o with
    | none => rw [q] at g; exact g.elim
    | some v =>
      obtain ⟨x, e1, e2⟩ := re.sl i v q
      refine ⟨x, e1, ?_⟩
      have e3 := slot_rv rm.sub e2
      rw [q] at g
      cases v with
      | own ds => exact g H .refl rm x e3
      | p ds => exact e2.elim
      | d y => exact g H .refl rm x e3
      | h k => exact g H .refl rm x e3
      | f n => exact g H .refl rm x e3
      | s ns => exact g H .refl rm x e3
theorem se_cst {G : Glob} {c : Nat → List SV → Mem → R SV} {d : D} {k : Const} {j : Nat} {pos : Pos} (h : cstB d k = true) : SE L X W (evE G c (.cst d)) (.Constant k j pos) := by
  intro av hd σ env H m Q rm re g
  unfold evE at g
  have g := g H .refl rm
  unfold cstB at h
  split at h
  · exact wp_of pe_non (g _ rp_non)
  · rw [beq_iff_eq] at h; subst h; exact wp_of pe_bl (g _ (rp_bl _))
  · rw [beq_iff_eq] at h; subst h; exact wp_of pe_int (g _ (rp_int _))
  · rw [Bool.and_eq_true, beq_iff_eq] at h
    obtain ⟨e, h⟩ := h
    subst e; exact wp_of pe_str (g _ ⟨.str _, h⟩)
  · cases h
theorem se_glo {G : Glob} {c : Nat → List SV → Mem → R SV} {k : Nat} {lb : Bool} {n : Nat} {z : Str} {pos : Pos} (C : Cok L G c k lb X W) (h1 : L.gn n = some z) (h2 : glB X.env.scope z = true) : SE L X W (evE G c (.glo n)) (.Name z pos) := by
  intro av hd σ env H m Q rm re g
  obtain ⟨hg, hdb, _⟩ := gl_of h2
  unfold evE at g
  cases q : G.gc n with
  | none => rw [q] at g; exact g.elim
  | some y =>
    rw [q] at g
    obtain ⟨u, v, e1, e2, e3⟩ := C.lf.gc n z y h1 q
    exact wp_of (pe_glob hg e1 e2 hdb) (g H .refl rm _ (e3 hd H))
theorem se_fnr {G : Glob} {c : Nat → List SV → Mem → R SV} {k : Nat} {lb : Bool} {n : Nat} {z : Str} {pos : Pos} (C : Cok L G c k lb X W) (h1 : L.nm n = some z) (h2 : glB X.env.scope z = true) : SE L X W (evE G c (.fnr n)) (.Name z pos) := by
  intro av hd σ env H m Q rm re g
  obtain ⟨hg, hdb, _⟩ := gl_of h2
  unfold evE at g
  obtain ⟨a, e0, e1⟩ := C.lf.fn n z h1
  exact wp_of (pe_glob (v := .ref a) hg e1 rfl hdb) (g H .refl rm _ ⟨a, e0, rfl⟩)
theorem se_pow {G : Glob} {c : Nat → List SV → Mem → R SV} {a b j1 j2 : Nat} {p1 p2 pos : Pos} (h1 : b ≤ 1000) (h2 : a < 1000) : SE L X W (evE G c (.pow a b)) (.BinOp (.Constant (.int (a : Int)) j1 p1) .Pow (.Constant (.int (b : Int)) j2 p2) pos) := by
  intro av hd σ env H m Q rm re g
  unfold evE at g
  refine wp_of (pe_op op_pow pe_int pe_int) ⟨_, _, rfl, rfl, ⟨by omega, by omega, ?_⟩, ?_⟩
  · rw [Int.natAbs_natCast]
    exact Nat.lt_of_lt_of_le h2 (by decide)
  · have e : ((a : Int) ^ ((b : Int)).toNat) = ((a ^ b : Nat) : Int) := by rw [Int.toNat_natCast]; simp
    show Q (.int ((a : Int) ^ ((b : Int)).toNat)) H
    rw [e]
    exact g H .refl rm _ (rp_int _)
theorem se_bin {ea eb : EnvT → Mem → R SV} {o : Bo} {a b : Expr} {pos : Pos} (ha : SE L X W ea a) (hb : SE L X W eb b) :
    SE L X W (fun env m => bd (ea env m) fun x m => bd (eb env m) fun y m => lift (binD o x y) m) (.BinOp a (opOf o) b pos) := by
  intro av hd σ env H m Q rm re g
  refine wp_of (pe_op op_w pe_w pe_w) (ha av hd σ env H m _ rm re (g.bd fun v x m1 H1 _ ox g1 rm1 k1 xv rx => ?_))
  refine hb av hd σ env H1 m1 _ rm1 (re.gr g1 rm.sub) (k1.bd fun v2 y m2 H2 _ oy g2 rm2 k2 yv ry => ?_)
  obtain ⟨w, ew, q⟩ := k2.lift
  exact bin_ok o rm2 (g1.trans g2) ((RO.of rm.sub rx ox).gr g2 rm.sub) (RO.of rm.sub ry oy) ew fun H' z gz rz vz => q H' gz rz z vz
theorem se_neg {ea : EnvT → Mem → R SV} {a : Expr} {pos : Pos} (ha : SE L X W ea a) :
    SE L X W (fun env m => bd (ea env m) fun x m => match x with | .int i => .ok (.d (.int (-i))) m | _ => .no) (.UnaryOp .USub a pos) := by
  intro av hd σ env H m Q rm re g
  refine wp_of (pe_un un_neg pe_w) (ha av hd σ env H m _ rm re (g.bd fun v x m1 H1 _ ox g1 rm1 k1 xv rx => ?_))
  cases x with
  | int i => cases (RO.of rm.sub rx ox).int; exact ⟨i, rfl, k1 H1 .refl rm1 _ (rp_int _)⟩
  | _ => exact k1.elim
/-- a comparison's reading, whatever is wanted of the bool -/
theorem cmp_read {ea eb : EnvT → Mem → R SV} {o : Co} {a b : Expr} {σ : L2.St} {env : EnvT} {W' : XK} {Qb : Bool → Hp → Prop} (hu : X.A.units + 65 < cLine) (ha : SE L X W ea a) (hb : SE L X W eb b) (rm : RM L.T X.K av hd H m) (re : REn X.K L.fa av hd H σ env)
    (g : Good L X.K av hd H (fun cls d H' => W cls d σ H') (bd (ea env m) fun x m => bd (eb env m) fun y m => lift ((cmpD o x y).map dbl) m) (fun v _ H' => ∃ b, v = .d (.bool b) ∧ Qb b H')) :
    tOp (wpO X (compareOp (coOf o))) (wpE X a) (wpE X b) σ H (fun z H' => ∃ c, z = .bl c ∧ Qb c H') := by
  refine ha av hd σ env H m _ rm re (g.bd fun v x m1 H1 _ ox g1 rm1 k1 xv rx => ?_)
  refine hb av hd σ env H1 m1 _ rm1 (re.gr g1 rm.sub) (k1.bd fun v2 y m2 H2 _ oy g2 rm2 k2 yv ry => ?_)
  obtain ⟨w, ew, q⟩ := k2.lift
  cases hc : cmpD o x y with
  | none => rw [hc] at ew; cases ew
  | some r =>
    rw [hc] at ew; cases ew
    obtain ⟨c, e1, e2⟩ := q H2 .refl rm2
    cases e1
    exact cmp_ok o hu ((RO.of rm.sub rx ox).gr g2 rm.sub) (RO.of rm.sub ry oy) hc ⟨_, rfl, e2⟩
end
end Tn

set_option maxRecDepth 100000
set_option maxHeartbeats 1000000
/-! Tn11: more of the same. -/
namespace Tn
open PySem PySem.Spec PyProof.Rows L2
section
variable {L : Link} {X : Cx} {W : WX} {T : List (Addr × Str)} {K : PySem.W.Frag} {fa : Nat → Option Addr} {av hd : List Addr} {H H0 H1 : Hp} {m : Mem} {x y : V} {v : SV} {d e : D} {Q : VK}
/-- a bool as data -/
theorem good_bool {r : R SV} {W' : XK} {Qv : VK} (h : ∀ v m', r = .ok v m' → ∃ b, v = .d (.bool b)) (g : Good L X.K av hd H W' r (fun v _ H' => ∀ x, RV X.K L.fa av hd H H' x v → Qv x H')) :
    Good L X.K av hd H W' r (fun v _ H' => ∃ b, v = .d (.bool b) ∧ Qv (.bl b) H') :=
  g.imp fun v m' H' e _ _ q => by
    obtain ⟨b, rfl⟩ := h v m' e
    exact ⟨b, rfl, q _ (rp_bl b)⟩
theorem bd_ok {r : R SV} {f : D → Mem → R SV} {v : SV} {m' : Mem} (h : bd r f = .ok v m') : ∃ w x m1, r = .ok w m1 ∧ opd w = some x ∧ f x m1 = .ok v m' := by
  cases r with
  | ok w m1 =>
    unfold bd at h
    simp only [R.bind] at h
    cases q : opd w with
    | none => rw [q] at h; cases h
    | some x => rw [q] at h; exact ⟨w, x, m1, rfl, q, h⟩
  | ex c p m1 => cases h
  | no => cases h
theorem lift_ok {o : Option SV} {m m' : Mem} {v : SV} (h : lift o m = .ok v m') : o = some v ∧ m = m' := by
  cases o with
  | none => cases h
  | some w => cases h; exact ⟨rfl, rfl⟩
theorem cmp_bool {ea eb : EnvT → Mem → R SV} {o : Co} {env : EnvT} {v : SV} {m' : Mem} (h : (bd (ea env m) fun x m => bd (eb env m) fun y m => lift ((cmpD o x y).map dbl) m) = .ok v m') : ∃ b, v = .d (.bool b) := by
  obtain ⟨_, x, _, _, _, h⟩ := bd_ok h
  obtain ⟨_, y, _, _, _, h⟩ := bd_ok h
  obtain ⟨h, _⟩ := lift_ok h
  cases q : cmpD o x y with
  | none => rw [q] at h; cases h
  | some b => rw [q] at h; cases h; exact ⟨b, rfl⟩
theorem se_cmp {ea eb : EnvT → Mem → R SV} {o : Co} {a b : Expr} {pos : Pos} (hu : X.A.units + 65 < cLine) (hs : sh b = true) (ha : SE L X W ea a) (hb : SE L X W eb b) :
    SE L X W (fun env m => bd (ea env m) fun x m => bd (eb env m) fun y m => lift ((cmpD o x y).map dbl) m) (.Compare a [coOf o] [b] pos) := by
  intro av hd σ env H m Q rm re g
  refine wp_of (pe_cmpR op_w pe_w pe_w (behind_ok hs)) ?_
  have q := cmp_read (Qb := fun b H' => Q (.bl b) H') (W' := fun _ _ _ => False) hu ha hb rm re (good_bool (fun v m' e => cmp_bool e) g)
  refine (fun {P P' : VK} (hP : ∀ z H', P z H' → P' z H') (h : tOp (wpO X (compareOp (coOf o))) (wpE X a) (wpE X b) σ H P) => ?_ : ∀ {P P' : VK}, (∀ z H', P z H' → P' z H') → tOp (wpO X (compareOp (coOf o))) (wpE X a) (wpE X b) σ H P → tOp (wpO X (compareOp (coOf o))) (wpE X a) (wpE X b) σ H P') (fun z H' h => ?_) q
  · intro pins s I
    refine thn (h pins s I) fun u s1 h1 => ?_
    obtain ⟨x1, H1, I1, r1, q1⟩ := h1
    refine ⟨x1, H1, I1, r1, fun pins2 s2 I2 => thn (q1 pins2 s2 I2) fun u2 s3 h3 => ?_⟩
    obtain ⟨x3, H3, I3, r3, q3⟩ := h3
    refine ⟨x3, H3, I3, r3, fun pins4 s4 σ4 v4 u4 I4 r4 r5 => thn (q3 pins4 s4 σ4 v4 u4 I4 r4 r5) fun u6 s6 h6 => ?_⟩
    obtain ⟨x6, H6, I6, r6, q6⟩ := h6
    exact ⟨x6, H6, I6, r6, hP _ _ q6⟩
  · obtain ⟨c, rfl, h⟩ := h; exact h
theorem st_cmp {ea eb : EnvT → Mem → R SV} {o : Co} {a b : Expr} {pos : Pos} (hu : X.A.units + 65 < cLine) (hs : sh b = true) (ha : SE L X W ea a) (hb : SE L X W eb b) :
    STs L X W (fun env m => bd (ea env m) fun x m => bd (eb env m) fun y m => lift ((cmpD o x y).map dbl) m) (.Compare a [coOf o] [b] pos) := by
  intro av hd σ env H m Q rm re g
  exact wpT_of (pt_cmpR op_w pe_w pe_w (behind_ok hs)) (cmp_read (W' := fun _ _ _ => False) hu ha hb rm re g)
/-- a test by its value -/
theorem st_plain {ev : EnvT → Mem → R SV} {a : Expr} (ha : SE L X W ev a) (hp : plainT a = true) : STs L X W ev a := by
  intro av hd σ env H m Q rm re g
  refine wpT_of (pt_val pe_w (plainT_ok hp)) (ha av hd σ env H m _ rm re (g.imp fun v m' H' _ _ _ k x rx => ?_))
  obtain ⟨b, rfl, q⟩ := k
  cases (show Dq X.K (hide hd H') x (.bool b) from rx.1)
  exact ⟨b, rfl, q⟩
/-- x is None, x is not None -/
theorem isn_read {ea : EnvT → Mem → R SV} {a : Expr} {σ : L2.St} {env : EnvT} {ng : Bool} {j : Nat} {p : Pos} {Qb : Bool → Hp → Prop} (ha : SE L X W ea a) (rm : RM L.T X.K av hd H m) (re : REn X.K L.fa av hd H σ env)
    (g : Good L X.K av hd H (fun cls d H' => W cls d σ H') ((ea env m).bind fun v m => .ok (dbl (isNn v != ng)) m) (fun v _ H' => ∃ b, v = .d (.bool b) ∧ Qb b H')) :
    wpE X a σ H (fun x H1 => Qb (if ng then !decide (x = .non) else decide (x = .non)) H1) := by
  refine ha av hd σ env H m _ rm re (g.bind fun v m1 H1 _ g1 rm1 k1 xv rx => ?_)
  obtain ⟨b, e1, e2⟩ := k1 H1 .refl rm1
  have e3 : (isNn v != ng) = b := PyData.bool.inj (SV.d.inj e1)
  have hx : decide (xv = V.non) = isNn v := by
    cases v with
    | d z =>
      cases z with
      | none => cases rx.1; rfl
      | bool _ => cases rx.1; rfl
      | int _ => cases rx.1; rfl
      | str _ => cases rx.1; rfl
      | list _ => cases rx.1; rfl
      | tuple _ => cases rx.1; rfl
      | dict _ => cases rx.1
    | own ds => obtain ⟨a, xs, rfl, _⟩ := rx; rfl
    | p ds => obtain ⟨a, xs, rfl, _⟩ := rx; rfl
    | h k => obtain ⟨a, _, rfl⟩ := rx; rfl
    | f n => obtain ⟨a, _, rfl⟩ := rx; rfl
    | s ns => obtain ⟨a, rfl, _⟩ := rx; rfl
  rw [hx]
  have e4 : (if ng = true then !isNn v else isNn v) = (isNn v != ng) := by cases ng <;> cases isNn v <;> rfl
  rw [e4, e3]
  exact e2
theorem isn_bool {r : R SV} {ng : Bool} {v : SV} {m' : Mem} (h : (r.bind fun v m => .ok (dbl (isNn v != ng)) m) = .ok v m') : ∃ b, v = .d (.bool b) := by
  cases r with
  | ok w m1 => cases h; exact ⟨_, rfl⟩
  | ex c p m1 => cases h
  | no => cases h
theorem pe_isn {a : Expr} {ng : Bool} {j : Nat} {p pos : Pos} : PE X (.Compare a [if ng then CmpOp.IsNot else CmpOp.Is] [.Constant .none j p] pos) (fun σ H Q => wpE X a σ H fun x H1 => Q (.bl (if ng then !decide (x = .non) else decide (x = .non))) H1) := by
  cases ng with
  | true => exact pe_cmp (pc_notN pe_w)
  | false => exact pe_cmp (pc_isN pe_w)
theorem pt_isn {a : Expr} {ng : Bool} {j : Nat} {p pos : Pos} : PT X (.Compare a [if ng then CmpOp.IsNot else CmpOp.Is] [.Constant .none j p] pos) (fun σ H Q => wpE X a σ H fun x H1 => Q (if ng then !decide (x = .non) else decide (x = .non)) H1) := by
  cases ng with
  | true =>
    refine ⟨fun pins s σ H Q I h => (pt_cmp (pc_notN pe_w)).run pins s σ H Q I (fun pins2 s2 I2 => thn (h pins2 s2 I2) fun u s1 h1 => ?_)⟩
    obtain ⟨x, H1, I1, r1, q1⟩ := h1
    exact ⟨x, H1, I1, r1, _, rfl, q1⟩
  | false =>
    refine ⟨fun pins s σ H Q I h => (pt_cmp (pc_isN pe_w)).run pins s σ H Q I (fun pins2 s2 I2 => thn (h pins2 s2 I2) fun u s1 h1 => ?_)⟩
    obtain ⟨x, H1, I1, r1, q1⟩ := h1
    exact ⟨x, H1, I1, r1, _, rfl, q1⟩
theorem se_isn {ea : EnvT → Mem → R SV} {a : Expr} {ng : Bool} {j : Nat} {p pos : Pos} (ha : SE L X W ea a) : SE L X W (fun env m => (ea env m).bind fun v m => .ok (dbl (isNn v != ng)) m) (.Compare a [if ng then CmpOp.IsNot else CmpOp.Is] [.Constant .none j p] pos) := by
  intro av hd σ env H m Q rm re g
  exact wp_of pe_isn (isn_read (j := j) (p := p) (Qb := fun b H' => Q (.bl b) H') ha rm re (good_bool (fun v m' e => isn_bool e) g))
theorem st_isn {ea : EnvT → Mem → R SV} {a : Expr} {ng : Bool} {j : Nat} {p pos : Pos} (ha : SE L X W ea a) : STs L X W (fun env m => (ea env m).bind fun v m => .ok (dbl (isNn v != ng)) m) (.Compare a [if ng then CmpOp.IsNot else CmpOp.Is] [.Constant .none j p] pos) := by
  intro av hd σ env H m Q rm re g
  exact wpT_of pt_isn (isn_read (j := j) (p := p) ha rm re g)
/-- x is True -/
theorem isb_read {ea : EnvT → Mem → R SV} {a : Expr} {σ : L2.St} {env : EnvT} {b : Bool} {Qb : Bool → Hp → Prop} (ha : SE L X W ea a) (rm : RM L.T X.K av hd H m) (re : REn X.K L.fa av hd H σ env)
    (g : Good L X.K av hd H (fun cls d H' => W cls d σ H') (bd (ea env m) fun x m => .ok (dbl (isBk b x)) m) (fun v _ H' => ∃ b, v = .d (.bool b) ∧ Qb b H')) :
    tOp (wpO X (compareOp .Is)) (wpE X a) (tC (.bl b)) σ H (fun z H' => ∃ c, z = .bl c ∧ Qb c H') := by
  refine ha av hd σ env H m _ rm re (g.bd fun v x m1 H1 _ ox g1 rm1 k1 xv rx => ?_)
  obtain ⟨c, e1, e2⟩ := k1 H1 .refl rm1
  have e3 : isBk b x = c := PyData.bool.inj (SV.d.inj e1)
  exact isb_ok (RO.of rm.sub rx ox) b ⟨_, rfl, by rw [e3]; exact e2⟩
theorem wpE_mono {a : Expr} {σ : L2.St} {P P' : VK} (hP : ∀ z H', P z H' → P' z H') (h : wpE X a σ H P) : wpE X a σ H P' := fun pins s I => thn (h pins s I) fun u s1 h1 => by
  obtain ⟨x, H1, I1, r1, q1⟩ := h1
  exact ⟨x, H1, I1, r1, hP _ _ q1⟩
theorem wpO_mono {f : Value → Value → Sem Value} {P P' : VK} (hP : ∀ z H', P z H' → P' z H') (h : wpO X f x y H P) : wpO X f x y H P' := fun pins s σ v u I r1 r2 => thn (h pins s σ v u I r1 r2) fun u s1 h1 => by
  obtain ⟨x, H1, I1, r1, q1⟩ := h1
  exact ⟨x, H1, I1, r1, hP _ _ q1⟩
theorem se_isb {ea : EnvT → Mem → R SV} {a : Expr} {b : Bool} {j : Nat} {p pos : Pos} (ha : SE L X W ea a) : SE L X W (fun env m => bd (ea env m) fun x m => .ok (dbl (isBk b x)) m) (.Compare a [.Is] [.Constant (.bool b) j p] pos) := by
  intro av hd σ env H m Q rm re g
  refine wp_of (pe_cmpR op_w pe_w pe_bl rfl) ?_
  have q := isb_read (Qb := fun b H' => Q (.bl b) H') ha rm re (good_bool (fun v m' e => by obtain ⟨_, x, _, _, _, h⟩ := bd_ok e; cases h; exact ⟨_, rfl⟩) g)
  refine wpE_mono (fun z H' h => ?_) q
  exact wpO_mono (fun z H' h => by obtain ⟨c, rfl, h⟩ := h; exact h) h
theorem st_isb {ea : EnvT → Mem → R SV} {a : Expr} {b : Bool} {j : Nat} {p pos : Pos} (ha : SE L X W ea a) : STs L X W (fun env m => bd (ea env m) fun x m => .ok (dbl (isBk b x)) m) (.Compare a [.Is] [.Constant (.bool b) j p] pos) := by
  intro av hd σ env H m Q rm re g
  exact wpT_of (pt_cmpR op_w pe_w pe_bl rfl) (isb_read ha rm re g)
end
end Tn

set_option maxRecDepth 100000
set_option maxHeartbeats 1000000
/-! Tn12: chains, and, or, not, if, displays, indices, slices. -/
namespace Tn
open PySem PySem.Spec PyProof.Rows L2
section
variable {L : Link} {X : Cx} {W : WX} {T : List (Addr × Str)} {K : PySem.W.Frag} {fa : Nat → Option Addr} {av hd : List Addr} {H H0 H1 : Hp} {m : Mem} {x y : V} {v : SV} {d e : D} {Q : VK}
theorem last_ok {o o2 : CmpOp} {b e : Expr} (h1 : sh b = true) (h2 : sh e = true) : lastMarks [o, o2] [b, e] = false := by
  show behindInMarks o2 e = false
  exact behind_ok h2
def chF (ea eb ec : EnvT → Mem → R SV) (o o2 : Co) : EnvT → Mem → R SV := fun env m => bd (ea env m) fun x m => bd (eb env m) fun y m => match cmpD o x y with
  | some true => bd (ec env m) fun z m => lift ((cmpD o2 y z).map dbl) m
  | some false => .ok (dbl false) m
  | none => .no
theorem ch_read {ea eb ec : EnvT → Mem → R SV} {o o2 : Co} {a b e : Expr} {σ : L2.St} {env : EnvT} {Qb : Bool → Hp → Prop} (hu : X.A.units + 65 < cLine) (ha : SE L X W ea a) (hb : SE L X W eb b) (hc : SE L X W ec e) (rm : RM L.T X.K av hd H m) (re : REn X.K L.fa av hd H σ env)
    (g : Good L X.K av hd H (fun cls d H' => W cls d σ H') (chF ea eb ec o o2 env m) (fun v _ H' => ∃ b, v = .d (.bool b) ∧ Qb b H')) :
    tChain (wpO X (compareOp (coOf o))) (wpO X (compareOp (coOf o2))) (wpE X a) (wpE X b) (wpE X e) σ H (fun z H' => ∃ c, z = .bl c ∧ Qb c H') := by
  unfold chF at g
  refine ha av hd σ env H m _ rm re (g.bd fun v x m1 H1 _ ox g1 rm1 k1 xv rx => ?_)
  refine hb av hd σ env H1 m1 _ rm1 (re.gr g1 rm.sub) (k1.bd fun v2 y m2 H2 _ oy g2 rm2 k2 yv ry => ?_)
  have ry' := RO.of rm.sub ry oy
  cases q : cmpD o x y with
  | none => rw [q] at k2; exact k2.elim
  | some c =>
    rw [q] at k2
    refine cmp_ok o hu ((RO.of rm.sub rx ox).gr g2 rm.sub) ry' q ⟨c, rfl, ?_⟩
    cases c with
    | false =>
      rw [if_neg Bool.false_ne_true]
      obtain ⟨c, e1, e2⟩ := k2 H2 .refl rm2
      cases e1
      exact ⟨_, rfl, e2⟩
    | true =>
      rw [if_pos rfl]
      refine hc av hd σ env H2 m2 _ rm2 ((re.gr g1 rm.sub).gr g2 rm.sub) (k2.bd fun v3 z m3 H3 _ oz g3 rm3 k3 zv rz => ?_)
      obtain ⟨w, ew, q3⟩ := k3.lift
      cases h2 : cmpD o2 y z with
      | none => rw [h2] at ew; cases ew
      | some r =>
        rw [h2] at ew; cases ew
        obtain ⟨c, e1, e2⟩ := q3 H3 .refl rm3
        cases e1
        exact cmp_ok o2 hu (ry'.gr g3 rm.sub) (RO.of rm.sub rz oz) h2 ⟨_, rfl, e2⟩
theorem ch_bool {ea eb ec : EnvT → Mem → R SV} {o o2 : Co} {env : EnvT} {v : SV} {m' : Mem} (h : chF ea eb ec o o2 env m = .ok v m') : ∃ b, v = .d (.bool b) := by
  unfold chF at h
  obtain ⟨_, x, _, _, _, h⟩ := bd_ok h
  obtain ⟨_, y, _, _, _, h⟩ := bd_ok h
  cases q : cmpD o x y with
  | none => rw [q] at h; cases h
  | some b =>
    rw [q] at h
    cases b with
    | false => cases h; exact ⟨_, rfl⟩
    | true =>
      obtain ⟨_, z, _, _, _, h⟩ := bd_ok h
      obtain ⟨h, _⟩ := lift_ok h
      cases q : cmpD o2 y z with
      | none => rw [q] at h; cases h
      | some b => rw [q] at h; cases h; exact ⟨b, rfl⟩
theorem se_chn {ea eb ec : EnvT → Mem → R SV} {o o2 : Co} {a b e : Expr} {pos : Pos} (hu : X.A.units + 65 < cLine) (h1 : sh b = true) (h2 : sh e = true) (ha : SE L X W ea a) (hb : SE L X W eb b) (hc : SE L X W ec e) :
    SE L X W (chF ea eb ec o o2) (.Compare a [coOf o, coOf o2] [b, e] pos) := by
  intro av hd σ env H m Q rm re g
  refine wp_of (pe_chain op_w op_w pe_w pe_w pe_w (last_ok h1 h2)) ?_
  have q := ch_read (Qb := fun b H' => Q (.bl b) H') hu ha hb hc rm re (good_bool (fun v m' e => ch_bool e) g)
  refine wpE_mono (fun z H' h => wpE_mono (fun z2 H2 h => wpO_mono (fun z3 H3 h => ?_) h) h) q
  obtain ⟨k, rfl, h⟩ := h
  refine ⟨k, rfl, ?_⟩
  cases k with
  | true =>
    rw [if_pos rfl] at h ⊢
    exact wpE_mono (fun z4 H4 h => wpO_mono (fun z5 H5 h => by obtain ⟨c, rfl, h⟩ := h; exact h) h) h
  | false =>
    rw [if_neg Bool.false_ne_true] at h ⊢
    obtain ⟨c, e, h⟩ := h
    cases e; exact h
theorem st_chn {ea eb ec : EnvT → Mem → R SV} {o o2 : Co} {a b e : Expr} {pos : Pos} (hu : X.A.units + 65 < cLine) (h1 : sh b = true) (h2 : sh e = true) (ha : SE L X W ea a) (hb : SE L X W eb b) (hc : SE L X W ec e) :
    STs L X W (chF ea eb ec o o2) (.Compare a [coOf o, coOf o2] [b, e] pos) := by
  intro av hd σ env H m Q rm re g
  exact wpT_of (pt_chain op_w op_w pe_w pe_w pe_w (last_ok h1 h2)) (ch_read hu ha hb hc rm re g)
/-! ### not, if -/
theorem se_not {ea : EnvT → Mem → R SV} {a : Expr} {pos : Pos} (ha : SE L X W ea a) : SE L X W (fun env m => bd (ea env m) fun x m => match x with | .bool k => .ok (dbl !k) m | _ => .no) (.UnaryOp .Not a pos) := by
  intro av hd σ env H m Q rm re g
  refine wp_of (pe_not pe_w) (ha av hd σ env H m _ rm re (g.bd fun v x m1 H1 _ ox g1 rm1 k1 xv rx => ?_))
  cases x with
  | bool k => cases (RO.of rm.sub rx ox).bl; exact ⟨k, rfl, k1 H1 .refl rm1 _ (rp_bl _)⟩
  | _ => exact k1.elim
theorem se_tnot {ea : EnvT → Mem → R SV} {a : Expr} {pos : Pos} (ha : SE L X W ea a) : SE L X W (fun env m => bd (ea env m) fun x m => match x with | .bool k => .ok (dbl !k) m | .int i => .ok (dbl (i == 0)) m | _ => .no) (.UnaryOp .Not a pos) := by
  intro av hd σ env H m Q rm re g
  refine wp_of (pe_notT pe_w) (ha av hd σ env H m _ rm re (g.bd fun v x m1 H1 _ ox g1 rm1 k1 xv rx => ?_))
  cases x with
  | bool k => cases (RO.of rm.sub rx ox).bl; exact ⟨k, rfl, k1 H1 .refl rm1 _ (rp_bl _)⟩
  | int i =>
    cases (RO.of rm.sub rx ox).int
    refine ⟨i != 0, rfl, ?_⟩
    have e : (!(i != 0)) = (i == 0) := by simp [bne]
    rw [e]
    exact k1 H1 .refl rm1 _ (rp_bl _)
  | _ => exact k1.elim
theorem st_not {ea : EnvT → Mem → R SV} {a : Expr} {pos : Pos} (hp : ∀ env m v m', ea env m = .ok v m' → ∀ b, opd v = some (.bool b) → v = .d (.bool b)) (ha : STs L X W ea a) : STs L X W (fun env m => bd (ea env m) fun x m => match x with | .bool k => .ok (dbl !k) m | _ => .no) (.UnaryOp .Not a pos) := by
  intro av hd σ env H m Q rm re g
  refine wpT_of (pt_not pt_w) (ha av hd σ env H m _ rm re (g.bd fun v x m1 H1 e1 ox g1 rm1 k1 => ?_))
  cases x with
  | bool k =>
    refine ⟨k, hp _ _ _ _ e1 _ ox, ?_⟩
    obtain ⟨c, e2, q⟩ := k1 H1 .refl rm1
    cases e2; exact q
  | _ => exact k1.elim
theorem opd_bool {v : SV} {b : Bool} (h : opd v = some (.bool b)) : v = .d (.bool b) := by
  cases v <;> cases h <;> rfl
def itF (et ea eb : EnvT → Mem → R SV) : EnvT → Mem → R SV := fun env m => bd (et env m) fun x m => match x with
    | .bool true => (ea env m).bind fun v m => match v with | .p _ => .no | _ => .ok v m
    | .bool false => (eb env m).bind fun v m => match v with | .p _ => .no | _ => .ok v m
    | _ => .no
theorem good_np {r : R SV} {W' : XK} {k : SV → Mem → Hp → Prop} (g : Good L X.K av hd H W' (r.bind fun v m => match v with | .p _ => .no | _ => .ok v m) k) : Good L X.K av hd H W' r k := by
  cases r with
  | ok v m =>
    cases v with
    | p ds => exact g.elim
    | _ => exact g
  | ex c p m => exact g
  | no => exact g
theorem se_ite {et ea eb : EnvT → Mem → R SV} {t a b : Expr} {pos : Pos} (ht : STs L X W et t) (ha : SE L X W ea a) (hb : SE L X W eb b) : SE L X W (itF et ea eb) (.IfExp t a b pos) := by
  intro av hd σ env H m Q rm re g
  unfold itF at g
  refine wp_of (pe_ifExp pt_w pe_w pe_w) (ht av hd σ env H m _ rm re (g.bd fun v x m1 H1 e1 ox g1 rm1 k1 => ?_))
  cases x with
  | bool k =>
    refine ⟨k, opd_bool ox, ?_⟩
    cases k with
    | true =>
      rw [if_pos rfl]
      exact ha av hd σ env H1 m1 Q rm1 (re.gr g1 rm.sub) ((good_np k1).imp fun v m' H' _ _ _ q x rx => q x (rx.old g1))
    | false =>
      rw [if_neg Bool.false_ne_true]
      exact hb av hd σ env H1 m1 Q rm1 (re.gr g1 rm.sub) ((good_np k1).imp fun v m' H' _ _ _ q x rx => q x (rx.old g1))
  | _ => exact k1.elim
theorem st_ite {et ea eb : EnvT → Mem → R SV} {t a b : Expr} {pos : Pos} : True := trivial
/-! ### displays -/
theorem rp_toD (sub : ∀ b ∈ av, b ∈ hd) (h : RV X.K fa av hd H0 H x v) (e : toD v = some d) : Rp X.K hd H x d := by
  cases v with
  | d y => cases e; exact h
  | own ds =>
    cases e
    obtain ⟨a, xs, rfl, _, na, ea, r⟩ := h
    refine ⟨.lst (by rw [hide_out na]; exact ea) (r.le (hide_sub fun b hb => List.mem_cons_of_mem _ hb)).1, lay_list.mpr r.2⟩
  | _ => cases e
theorem rps_toD (sub : ∀ b ∈ av, b ∈ hd) {xs : List V} {vs : List SV} (h : RVs X.K fa av hd H0 H xs vs) : ∀ {ds : Ds}, vs.mapM toD = some ds → RpAll X.K hd H xs ds := by
  induction h with
  | nil => intro ds e; cases e; exact ⟨.nil, rfl⟩
  | cons h1 h2 ih =>
    intro ds e
    rename_i x xs v vs
    rw [List.mapM_cons] at e
    cases q : toD v with
    | none => rw [q] at e; cases e
    | some d =>
      rw [q] at e
      cases q2 : vs.mapM toD with
      | none => rw [q2] at e; cases e
      | some ds' =>
        rw [q2] at e; cases e
        obtain ⟨i1, i2⟩ := ih q2
        obtain ⟨j1, j2⟩ := rp_toD sub h1 q
        exact ⟨.cons j1 i1, by simp only [LayAll, ascAll, Bool.and_eq_true]; exact ⟨j2, i2⟩⟩
theorem se_tup {es : EnvT → Mem → R (List SV)} {vs : List Expr} {k : Nat} {pos : Pos} (ha : SA L X W es vs) :
    SE L X W (fun env m => (es env m).bind fun vs m => match vs.mapM toD with | some ds => if ds.length ≤ 1000 then .ok (.d (.tuple ds)) m else .no | none => .no) (.Tuple vs k pos) := by
  intro av hd σ env H m Q rm re g
  refine wp_of (pe_tup pa_w) (ha av hd σ env H m _ rm re (g.bind fun ws m1 H1 _ g1 rm1 k1 xs rx => ?_))
  cases q : ws.mapM toD with
  | none => simp only [q] at k1; exact k1.elim
  | some ds =>
    simp only [q] at k1
    have r := rps_toD rm.sub rx q
    split at k1
    · rename_i hl
      refine ⟨?_, fun p n => k1 _ (Gr.new n) (rm1.new n) _ (new_tup rm1 n r)⟩
      rw [r.1.len]
      exact Nat.le_trans hl (by decide)
    · exact k1.elim
theorem se_lst {es : EnvT → Mem → R (List SV)} {vs : List Expr} {pos : Pos} (ha : SA L X W es vs) :
    SE L X W (fun env m => (es env m).bind fun vs m => match vs.mapM toD with | some ds => if ds.length ≤ 1000 then .ok (.own ds) m else .no | none => .no) (.List vs pos) := by
  intro av hd σ env H m Q rm re g
  refine wp_of (pe_lst pa_w) (ha av hd σ env H m _ rm re (g.bind fun ws m1 H1 _ g1 rm1 k1 xs rx => ?_))
  cases q : ws.mapM toD with
  | none => simp only [q] at k1; exact k1.elim
  | some ds =>
    simp only [q] at k1
    have r := rps_toD rm.sub rx q
    split at k1
    · rename_i hl
      refine ⟨?_, fun p n => k1 _ (Gr.new n) (rm1.new n) _ (new_own rm1 g1 n r)⟩
      rw [r.1.len]
      exact Nat.le_trans hl (by decide)
    · exact k1.elim
/-! ### indices, slices -/
def ixF (ea eb : EnvT → Mem → R SV) : EnvT → Mem → R SV := fun env m => (ea env m).bind fun v m => bd (eb env m) fun y m => match v, y with
    | .h k, .int i => match m[k]? with
      | some (.nums ns) => lift ((at_ ns i).map fun j => .d (.int j)) m
      | none => .no
    | .s ns, .int i => lift ((at_ ns i).map fun j => .d (.int j)) m
    | _, _ => match opd v with
      | some x => lift ((idxD x y).map .d) m
      | none => .no
theorem at_map {α β : Type} (f : α → β) (xs : List α) (i : Int) : at_ (xs.map f) i = (at_ xs i).map f := by
  unfold at_
  rw [List.length_map]
  split
  · rw [List.getElem?_map]
  · split
    · rw [List.getElem?_map]
    · rfl
theorem ix_plain (rm : RM L.T X.K av hd H m) (rx : RV X.K L.fa av hd H0 H x v) (hy : RO X.K av hd H y e) {W' : XK} (g : Good L X.K av hd H W' (match opd v with | some x => lift ((idxD x e).map .d) m | none => .no) (fun v _ H' => ∀ x, RV X.K L.fa av hd H0 H' x v → Q x H')) : rIx X.K x y H Q := by
  cases q : opd v with
  | none => rw [q] at g; exact g.elim
  | some z =>
    rw [q] at g
    obtain ⟨w, ew, k⟩ := g.lift
    cases q2 : idxD z e with
    | none => rw [q2] at ew; cases ew
    | some u =>
      rw [q2] at ew; cases ew
      exact ix_ok (RO.of rm.sub rx q) hy q2 fun w hw => k H .refl rm w hw
theorem se_idx {ea eb : EnvT → Mem → R SV} {a b : Expr} {pos : Pos} (hs : sh b = true) (ha : SE L X W ea a) (hb : SE L X W eb b) : SE L X W (ixF ea eb) (.Subscript a b pos) := by
  intro av hd σ env H m Q rm re g
  unfold ixF at g
  refine wp_of (pe_ix ix_seq pe_w pe_w (plain_ok hs)) (ha av hd σ env H m _ rm re (g.bind fun v m1 H1 _ g1 rm1 k1 xv rx => ?_))
  refine hb av hd σ env H1 m1 _ rm1 (re.gr g1 rm.sub) (k1.bd fun v2 y m2 H2 _ oy g2 rm2 k2 yv ry => ?_)
  have ry' := RO.of rm.sub ry oy
  have rx' := rx.gr g2 rm.sub
  cases v with
  | h k =>
    cases y with
    | int i =>
      cases ry'.int
      simp only at k2
      cases q : m2[k]? with
      | none => rw [q] at k2; exact k2.elim
      | some o =>
        rw [q] at k2
        cases o with
        | nums ns =>
          obtain ⟨w, ew, q3⟩ := k2.lift
          obtain ⟨a, ea, rfl⟩ := rx
          have hm : H2 a = some (.lst (ns.map V.int)) := rm2.mo k a _ ea q
          cases q4 : at_ ns i with
          | none => rw [q4] at ew; cases ew
          | some j =>
            rw [q4] at ew; cases ew
            refine .inl ⟨a, _, i, .int j, rfl, rfl, .of hm, ?_, q3 H2 .refl rm2 _ (rp_int j)⟩
            rw [at_eq, at_map, q4]; rfl
    | _ => simp only [opd] at k2; exact k2.elim
  | s ns =>
    cases y with
    | int i =>
      cases ry'.int
      simp only at k2
      obtain ⟨w, ew, q3⟩ := k2.lift
      obtain ⟨a, rfl, hq⟩ := rx'
      cases q4 : at_ ns i with
      | none => rw [q4] at ew; cases ew
      | some j =>
        rw [q4] at ew; cases ew
        refine .inl ⟨a, _, i, .int j, rfl, rfl, sqL_le hide_le hq, ?_, q3 H2 .refl rm2 _ (rp_int j)⟩
        rw [at_eq, at_map, q4]; rfl
    | _ => simp only [opd] at k2; exact k2.elim
  | d z => exact ix_plain rm2 (rx'.old .refl) ry' (k2.imp fun _ _ _ _ _ _ q => q)
  | own ds => exact ix_plain rm2 rx' ry' (k2.imp fun _ _ _ _ _ _ q => q)
  | p ds => exact ix_plain rm2 rx' ry' (k2.imp fun _ _ _ _ _ _ q => q)
  | f n => exact ix_plain rm2 rx' ry' (k2.imp fun _ _ _ _ _ _ q => q)
end
end Tn

set_option maxRecDepth 100000
set_option maxHeartbeats 1000000
/-! Tn13: and, or; slices; arguments, calls. -/
namespace Tn
open PySem PySem.Spec PyProof.Rows L2
section
variable {L : Link} {X : Cx} {W : WX} {T : List (Addr × Str)} {K : PySem.W.Frag} {fa : Nat → Option Addr} {av hd : List Addr} {H H0 H1 : Hp} {m : Mem} {x y : V} {v : SV} {d e : D} {Q : VK}
/-! ### and, or: one, more than one -/
def oneF (ea : EnvT → Mem → R SV) : EnvT → Mem → R SV := fun env m => bd (ea env m) fun x m => match x with
      | .bool k => .ok (dbl k) m
      | _ => .no
def andF (ea er : EnvT → Mem → R SV) : EnvT → Mem → R SV := fun env m => bd (ea env m) fun x m => match x with
      | .bool true => er env m
      | .bool false => .ok (dbl false) m
      | _ => .no
def orF (ea er : EnvT → Mem → R SV) : EnvT → Mem → R SV := fun env m => bd (ea env m) fun x m => match x with
      | .bool true => .ok (dbl true) m
      | .bool false => er env m
      | _ => .no
/-- an operand as data -/
theorem rp_opd (h : RO X.K av hd H x d) (hn : ∀ ds, d ≠ .list ds) : Rp X.K hd H x d := by
  cases d with
  | list ds => exact absurd rfl (hn ds)
  | _ => exact h
theorem se_one {ea : EnvT → Mem → R SV} {op : BoolOp} {a : Expr} {pos : Pos} (ha : SE L X W ea a) : SE L X W (oneF ea) (.BoolOp op [a] pos) := by
  intro av hd σ env H m Q rm re g
  refine wp_of (pe_one pe_w) (ha av hd σ env H m _ rm re (g.bd fun v x m1 H1 e1 ox g1 rm1 k1 xv rx => ?_))
  cases x with
  | bool k => cases (RO.of rm.sub rx ox).bl; exact k1 H1 .refl rm1 _ (rp_bl k)
  | _ => exact k1.elim
theorem st_one_and {ea : EnvT → Mem → R SV} {a : Expr} {pos : Pos} (ha : STs L X W ea a) {σ : L2.St} {env : EnvT} {Qb : Bool → Hp → Prop} (rm : RM L.T X.K av hd H m) (re : REn X.K L.fa av hd H σ env)
    (g : Good L X.K av hd H (fun cls d H' => W cls d σ H') (oneF ea env m) (fun v _ H' => ∃ b, v = .d (.bool b) ∧ Qb b H')) : wpT X a σ H Qb := by
  refine ha av hd σ env H m _ rm re (g.bd fun v x m1 H1 e1 ox g1 rm1 k1 => ?_)
  cases x with
  | bool k =>
    obtain ⟨b, e, q⟩ := k1 H1 .refl rm1
    cases e
    exact ⟨_, opd_bool ox, q⟩
  | _ => exact k1.elim
theorem se_and {ea er : EnvT → Mem → R SV} {a b : Expr} {rest : List Expr} {pos : Pos} (ha : SE L X W ea a) (hr : SE L X W er (.BoolOp .And (b :: rest) pos)) : SE L X W (andF ea er) (.BoolOp .And (a :: b :: rest) pos) := by
  intro av hd σ env H m Q rm re g
  refine wp_of (pe_and pe_w pe_w) (ha av hd σ env H m _ rm re (g.bd fun v x m1 H1 e1 ox g1 rm1 k1 xv rx => ?_))
  cases x with
  | bool c =>
    cases (RO.of rm.sub rx ox).bl
    refine ⟨c, rfl, ?_⟩
    cases c with
    | true =>
      rw [if_pos rfl]
      exact hr av hd σ env H1 m1 Q rm1 (re.gr g1 rm.sub) (k1.imp fun v m' H' _ _ _ q x rx => q x (rx.old g1))
    | false =>
      rw [if_neg Bool.false_ne_true]
      exact k1 H1 .refl rm1 _ (rp_bl false)
  | _ => exact k1.elim
theorem se_or {ea er : EnvT → Mem → R SV} {a b : Expr} {rest : List Expr} {pos : Pos} (ha : SE L X W ea a) (hr : SE L X W er (.BoolOp .Or (b :: rest) pos)) : SE L X W (orF ea er) (.BoolOp .Or (a :: b :: rest) pos) := by
  intro av hd σ env H m Q rm re g
  refine wp_of (pe_or pe_w pe_w) (ha av hd σ env H m _ rm re (g.bd fun v x m1 H1 e1 ox g1 rm1 k1 xv rx => ?_))
  cases x with
  | bool c =>
    cases (RO.of rm.sub rx ox).bl
    refine ⟨c, rfl, ?_⟩
    cases c with
    | false =>
      rw [if_neg Bool.false_ne_true]
      exact hr av hd σ env H1 m1 Q rm1 (re.gr g1 rm.sub) (k1.imp fun v m' H' _ _ _ q x rx => q x (rx.old g1))
    | true =>
      rw [if_pos rfl]
      exact k1 H1 .refl rm1 _ (rp_bl true)
  | _ => exact k1.elim
def wpW (X : Cx) (e : Expr) : TT := fun σ H Q => ∀ (whole : Sem Value) (pins : List (Addr × Obj)) (s : Shared), Inv X pins σ H s → wpAny (model X.prog X.w) X.A (isTrue e X.env whole) (TP X pins σ Q) X.xe s
theorem pw_w {X : Cx} {e : Expr} : PW X e (wpW X e) := ⟨fun wh pins s _ _ _ I h => h wh pins s I⟩
theorem wpW_of {X : Cx} {e : Expr} {t : TT} {σ : L2.St} {H : Hp} {Q : Bool → Hp → Prop} (h : PW X e t) (q : t σ H Q) : wpW X e σ H Q := fun wh pins s I => h.run wh pins s σ H Q I q
def SW (L : Link) (X : Cx) (W : WX) (ev : EnvT → Mem → R SV) (src : Expr) : Prop := ∀ (av hd : List Addr) (σ : L2.St) (env : EnvT) (H : Hp) (m : Mem) (Q : Bool → Hp → Prop), RM L.T X.K av hd H m → REn X.K L.fa av hd H σ env →
  Good L X.K av hd H (fun cls d H' => W cls d σ H') (ev env m) (fun v _ H' => ∃ b, v = .d (.bool b) ∧ Q b H') → wpW X src σ H Q
theorem st_w {ev : EnvT → Mem → R SV} {a : Expr} (h : SW L X W ev a) : STs L X W ev a := fun av hd σ env H m Q rm re g pins s I => h av hd σ env H m Q rm re g _ pins s I
theorem sw_one_and {ea : EnvT → Mem → R SV} {a : Expr} {pos : Pos} (ha : STs L X W ea a) : SW L X W (oneF ea) (.BoolOp .And [a] pos) := fun av hd σ env H m Q rm re g =>
  wpW_of (pw_and1 pt_w) (st_one_and (pos := pos) ha rm re g)
theorem sw_one_or {ea : EnvT → Mem → R SV} {a : Expr} {pos : Pos} (ha : STs L X W ea a) : SW L X W (oneF ea) (.BoolOp .Or [a] pos) := fun av hd σ env H m Q rm re g =>
  wpW_of (pw_or1 pt_w) (st_one_and (pos := pos) ha rm re g)
theorem sw_and {ea er : EnvT → Mem → R SV} {a b : Expr} {rest : List Expr} {pos : Pos} (ha : STs L X W ea a) (hr : SW L X W er (.BoolOp .And (b :: rest) pos)) : SW L X W (andF ea er) (.BoolOp .And (a :: b :: rest) pos) := by
  intro av hd σ env H m Q rm re g
  refine wpW_of (pw_and pt_w pw_w) (ha av hd σ env H m _ rm re (g.bd fun v x m1 H1 e1 ox g1 rm1 k1 => ?_))
  cases x with
  | bool c =>
    refine ⟨c, opd_bool ox, ?_⟩
    cases c with
    | true =>
      rw [if_pos rfl]
      exact hr av hd σ env H1 m1 Q rm1 (re.gr g1 rm.sub) k1
    | false =>
      rw [if_neg Bool.false_ne_true]
      obtain ⟨b, e, q⟩ := k1 H1 .refl rm1
      cases e; exact q
  | _ => exact k1.elim
theorem sw_or {ea er : EnvT → Mem → R SV} {a b : Expr} {rest : List Expr} {pos : Pos} (ha : STs L X W ea a) (hr : SW L X W er (.BoolOp .Or (b :: rest) pos)) : SW L X W (orF ea er) (.BoolOp .Or (a :: b :: rest) pos) := by
  intro av hd σ env H m Q rm re g
  refine wpW_of (pw_or pt_w pw_w) (ha av hd σ env H m _ rm re (g.bd fun v x m1 H1 e1 ox g1 rm1 k1 => ?_))
  cases x with
  | bool c =>
    refine ⟨c, opd_bool ox, ?_⟩
    cases c with
    | false =>
      rw [if_neg Bool.false_ne_true]
      exact hr av hd σ env H1 m1 Q rm1 (re.gr g1 rm.sub) k1
    | true =>
      rw [if_pos rfl]
      obtain ⟨b, e, q⟩ := k1 H1 .refl rm1
      cases e; exact q
  | _ => exact k1.elim
/-! ### slices -/
theorem sIx_eq (n d : Nat) (i : Int) : HT.sIx n d (some i) = sIx n i := by
  unfold sIx HT.sIx
  by_cases h : 0 ≤ i
  · rw [if_pos h]
    show (if i < 0 then _ else _) = _
    rw [if_neg (by omega)]
  · rw [if_neg h]
    show (if i < 0 then _ else _) = _
    rw [if_pos (by omega), Int.add_comm]
theorem cut_lo (xs : List V) (i : Int) : cutV xs (some i) none = xs.drop (sIx xs.length i) := by
  unfold cutV
  rw [sIx_eq]
  show ((xs.drop (sIx xs.length i)).take (xs.length - sIx xs.length i)) = _
  rw [List.take_of_length_le]
  rw [List.length_drop]
  exact Nat.le_refl _
theorem cut_hi (xs : List V) (i : Int) : cutV xs none (some i) = xs.take (sIx xs.length i) := by
  unfold cutV
  rw [sIx_eq]
  rfl
theorem asc_sub {z : Str} {l : List Nat} (hz : Lay (.str z)) (h : ∀ c ∈ l, c ∈ z.cps.toList) : Lay (.str ⟨l.toArray⟩) := by
  have hz : ascS z = true := hz
  show ascS ⟨l.toArray⟩ = true
  rw [asc_mem] at hz ⊢
  exact fun c hc => hz c (h c (by simpa using hc))
theorem cutS_lo (z : Str) (i : Int) : cutS z (some i) none = ⟨(z.cps.toList.drop (sIx z.length i)).toArray⟩ := by
  unfold cutS
  rw [sIx_eq]
  show (⟨((z.cps.toList.drop (sIx z.length i)).take (z.length - sIx z.length i)).toArray⟩ : Str) = _
  rw [List.take_of_length_le]
  rw [List.length_drop, Array.length_toList]
  exact Nat.le_refl _
theorem cutS_hi (z : Str) (i : Int) : cutS z none (some i) = ⟨(z.cps.toList.take (sIx z.length i)).toArray⟩ := by
  unfold cutS
  rw [sIx_eq]
  rfl
def rSlB (K : PySem.W.Frag) : V → Option Int → Option Int → Hp → VK → Prop := fun x lo hi H Q => rSlL K x lo hi H Q ∨ rSlA K x lo hi H Q
theorem se_slo {ea eb : EnvT → Mem → R SV} {a b : Expr} {p pos : Pos} (ha : SE L X W ea a) (hb : SE L X W eb b) :
    SE L X W (fun env m => bd (ea env m) fun x m => bd (eb env m) fun y m => lift (loD x y) m) (.Subscript a (.Slice (some b) none none p) pos) := by
  intro av hd σ env H m Q rm re g
  refine wp_of (pe_slice (sl_list.or (sl_tupA.or sl_str)) pe_w (po_some pe_w) po_none) (ha av hd σ env H m _ rm re (g.bd fun v x m1 H1 _ ox g1 rm1 k1 xv rx => ?_))
  refine hb av hd σ env H1 m1 _ rm1 (re.gr g1 rm.sub) (k1.bd fun v2 y m2 H2 _ oy g2 rm2 k2 yv ry => ?_)
  have rx := (RO.of rm.sub rx ox).gr g2 rm.sub
  have ry := RO.of rm.sub ry oy
  obtain ⟨w, ew, q⟩ := k2.lift
  unfold loD at ew
  split at ew
  · rename_i ds i
    cases ew
    cases ry.int
    refine ⟨_, rfl, .inr (.inl ?_)⟩
    obtain ⟨a, xs, rfl, sx, r⟩ := rx.tup
    rw [← r.1.len] at q
    refine ⟨a, xs, rfl, sqT_le hide_le sx, fun e => ?_, fun p n => ?_⟩
    · rw [cut_lo] at e
      have r' := r.1.drop (sIx xs.length i)
      rw [e] at r'
      exact q H2 .refl rm2 _ ⟨.tup sx r', lay_tup.mpr (r.2.of_sub fun d hd => List.mem_of_mem_drop hd)⟩
    · rw [cut_lo]
      exact q _ (Gr.new n) (rm2.new n) _ (new_tup rm2 n ⟨r.1.drop _, r.2.of_sub fun d hd => List.mem_of_mem_drop hd⟩)
  · cases ew
    cases ry.int
    refine ⟨_, rfl, .inl ?_⟩
    obtain ⟨a, xs, rfl, na, ea, r⟩ := rx
    rw [← r.1.len] at q
    refine ⟨a, xs, rfl, .of ea, fun p n => ?_⟩
    rw [cut_lo]
    exact q _ (Gr.new n) (rm2.new n) _ (new_own rm2 (g1.trans g2) n ⟨r.1.drop _, r.2.of_sub fun d hd => List.mem_of_mem_drop hd⟩)
  · split at ew
    · rename_i z i hl
      cases ew
      cases ry.int
      cases rx.str
      refine ⟨_, rfl, .inr (.inr ⟨z, rfl, lim_line hl, ?_⟩)⟩
      rw [cutS_lo]
      refine q H2 .refl rm2 _ ⟨.str _, ?_⟩
      exact asc_sub rx.lay fun c hc => List.mem_of_mem_drop hc
    · cases ew
  · cases ew
theorem se_shi {ea eb : EnvT → Mem → R SV} {a b : Expr} {p pos : Pos} (ha : SE L X W ea a) (hb : SE L X W eb b) :
    SE L X W (fun env m => bd (ea env m) fun x m => bd (eb env m) fun y m => lift (hiD x y) m) (.Subscript a (.Slice none (some b) none p) pos) := by
  intro av hd σ env H m Q rm re g
  refine wp_of (pe_slice (sl_list.or (sl_tupA.or sl_str)) pe_w po_none (po_some pe_w)) (ha av hd σ env H m _ rm re (g.bd fun v x m1 H1 _ ox g1 rm1 k1 xv rx => ?_))
  refine hb av hd σ env H1 m1 _ rm1 (re.gr g1 rm.sub) (k1.bd fun v2 y m2 H2 _ oy g2 rm2 k2 yv ry => ?_)
  have rx := (RO.of rm.sub rx ox).gr g2 rm.sub
  have ry := RO.of rm.sub ry oy
  obtain ⟨w, ew, q⟩ := k2.lift
  unfold hiD at ew
  split at ew
  · rename_i ds i
    cases ew
    cases ry.int
    refine ⟨_, rfl, .inr (.inl ?_)⟩
    obtain ⟨a, xs, rfl, sx, r⟩ := rx.tup
    rw [← r.1.len] at q
    refine ⟨a, xs, rfl, sqT_le hide_le sx, fun e => ?_, fun p n => ?_⟩
    · rw [cut_hi] at e
      have r' := r.1.take (sIx xs.length i)
      rw [e] at r'
      exact q H2 .refl rm2 _ ⟨.tup sx r', lay_tup.mpr (r.2.of_sub fun d hd => List.mem_of_mem_take hd)⟩
    · rw [cut_hi]
      exact q _ (Gr.new n) (rm2.new n) _ (new_tup rm2 n ⟨r.1.take _, r.2.of_sub fun d hd => List.mem_of_mem_take hd⟩)
  · cases ew
    cases ry.int
    refine ⟨_, rfl, .inl ?_⟩
    obtain ⟨a, xs, rfl, na, ea, r⟩ := rx
    rw [← r.1.len] at q
    refine ⟨a, xs, rfl, .of ea, fun p n => ?_⟩
    rw [cut_hi]
    exact q _ (Gr.new n) (rm2.new n) _ (new_own rm2 (g1.trans g2) n ⟨r.1.take _, r.2.of_sub fun d hd => List.mem_of_mem_take hd⟩)
  · split at ew
    · rename_i z i hl
      cases ew
      cases ry.int
      cases rx.str
      refine ⟨_, rfl, .inr (.inr ⟨z, rfl, lim_line hl, ?_⟩)⟩
      rw [cutS_hi]
      refine q H2 .refl rm2 _ ⟨.str _, ?_⟩
      exact asc_sub rx.lay fun c hc => List.mem_of_mem_take hc
    · cases ew
  · cases ew
theorem se_rev {ea : EnvT → Mem → R SV} {a : Expr} {k : Nat} {p1 p2 p3 pos : Pos} (ha : SE L X W ea a) :
    SE L X W (fun env m => bd (ea env m) fun x m => lift (revD x) m) (.Subscript a (.Slice none none (some (.UnaryOp .USub (.Constant (.int 1) k p1) p2)) p3) pos) := by
  intro av hd σ env H m Q rm re g
  refine wp_of (pe_rev pe_w) (ha av hd σ env H m _ rm re (g.bd fun v x m1 H1 _ ox g1 rm1 k1 xv rx => ?_))
  have rx := RO.of rm.sub rx ox
  obtain ⟨w, ew, q⟩ := k1.lift
  unfold revD at ew
  split at ew
  · cases ew
    obtain ⟨a, xs, rfl, sx, r⟩ := rx.tup
    exact revt_ok (sqT_le hide_le sx) fun p n => q _ (Gr.new n) (rm1.new n) _ (new_tup rm1 n ⟨r.1.rev, r.2.of_sub fun d hd => List.mem_reverse.mp hd⟩)
  · cases ew
    obtain ⟨a, xs, rfl, na, ea, r⟩ := rx
    exact revl_ok (.of ea) fun p n => q _ (Gr.new n) (rm1.new n) _ (new_own rm1 g1 n ⟨r.1.rev, r.2.of_sub fun d hd => List.mem_reverse.mp hd⟩)
  · cases ew
/-! ### arguments -/
theorem sa_nil : SA L X W (fun _ m => .ok [] m) [] := fun av hd σ env H m Q rm re g => wpA_of pa_nil (g H .refl rm [] .nil)
theorem RVs.gr (g : Gr av H H1) (sub : ∀ b ∈ av, b ∈ hd) {xs : List V} {vs : List SV} (h : RVs K fa av hd H0 H xs vs) : RVs K fa av hd H0 H1 xs vs := by
  induction h with
  | nil => exact .nil
  | cons h1 _ ih => exact .cons (h1.gr g sub) ih
theorem RVs.old (g : Gr av H0 H1) {xs : List V} {vs : List SV} (h : RVs K fa av hd H1 H xs vs) : RVs K fa av hd H0 H xs vs := by
  induction h with
  | nil => exact .nil
  | cons h1 _ ih => exact .cons (h1.old g) ih
theorem sa_cons {ea : EnvT → Mem → R SV} {er : EnvT → Mem → R (List SV)} {a : Expr} {r : List Expr} (hs : sh a = true) (ha : SE L X W ea a) (hr : SA L X W er r) :
    SA L X W (fun env m => (ea env m).bind fun v m => (er env m).bind fun vs m => .ok (v :: vs) m) (a :: r) := by
  intro av hd σ env H m Q rm re g
  refine wpA_of (pa_cons pe_w pa_w (star_ok hs)) (ha av hd σ env H m _ rm re (g.bind fun v m1 H1 _ g1 rm1 k1 xv rx => ?_))
  refine hr av hd σ env H1 m1 _ rm1 (re.gr g1 rm.sub) (k1.bind fun vs m2 H2 _ g2 rm2 k2 xs rs => ?_)
  exact k2 H2 .refl rm2 _ (.cons (rx.gr g2 rm.sub) (rs.old g1))
/-! ### calls -/
theorem rv_toA (sub : ∀ b ∈ av, b ∈ hd) {w : SV} (h : RV X.K fa av hd H0 H x v) (e : toA v = some w) : RV X.K fa av hd H H x w := by
  cases v with
  | d y => cases e; exact h
  | own ds => cases e; exact rp_toD (d := .list ds) (v := .own ds) sub h rfl
  | p ds => cases e
  | h k => cases e; exact h
  | f n => cases e; exact h
  | s ns => cases e; exact h
theorem rvs_toA (sub : ∀ b ∈ av, b ∈ hd) {xs : List V} {vs : List SV} (h : RVs X.K fa av hd H0 H xs vs) : ∀ {ws : List SV}, vs.mapM toA = some ws → RVs X.K fa av hd H H xs ws := by
  induction h with
  | nil => intro ds e; cases e; exact .nil
  | cons h1 h2 ih =>
    intro ds e
    rename_i x xs v vs
    rw [List.mapM_cons] at e
    cases q : toA v with
    | none => rw [q] at e; cases e
    | some d =>
      rw [q] at e
      cases q2 : vs.mapM toA with
      | none => rw [q2] at e; cases e
      | some ds' => rw [q2] at e; cases e; exact .cons (rv_toA sub h1 q) (ih q2)
theorem toA_args : ∀ {vs args : List SV}, vs.mapM toA = some args → args.all argOk = true
  | [], args, e => by cases e; rfl
  | v :: vs, args, e => by
    rw [List.mapM_cons] at e
    cases q : toA v with
    | none => rw [q] at e; cases e
    | some w =>
      rw [q] at e
      cases q2 : vs.mapM toA with
      | none => rw [q2] at e; cases e
      | some ws =>
        rw [q2] at e
        cases e
        rw [List.all_cons, toA_args q2, Bool.and_true]
        cases v <;> cases q <;> rfl
def caF (c : Nat → List SV → Mem → R SV) (n : Nat) (es : EnvT → Mem → R (List SV)) : EnvT → Mem → R SV := fun env m => (es env m).bind fun vs m => match vs.mapM toA with
    | some args => c n args m
    | none => .no
/-- what the callee asks -/
theorem sp_of {G : Glob} {c : Nat → List SV → Mem → R SV} {n : Nat} {σ : L2.St} {vs : List SV} {xs : List V} (rm : RM L.T X.K av hd H m) (g0 : Gr av H0 H) (rx : RVs X.K L.fa av hd H0 H xs vs)
    (g : Good L X.K av hd H (fun cls d H' => W cls d σ H') (match vs.mapM toA with | some args => c n args m | none => .no) (fun v _ H' => ∀ x, RV X.K L.fa av hd H0 H' x v → Q x H')) : spF L X.K c n xs H Q (fun cls d H' => W cls d σ H') := by
  cases q : vs.mapM toA with
  | none => rw [q] at g; exact g.elim
  | some args =>
    rw [q] at g
    exact ⟨av, hd, m, args, toA_args q, rvs_toA rm.sub rx q, rm, g.imp fun v m' H' _ _ _ k x rx => k x (rx.old g0)⟩
theorem se_call {G : Glob} {c : Nat → List SV → Mem → R SV} {k : Nat} {lb : Bool} {n : Nat} {z : Str} {es : EnvT → Mem → R (List SV)} {a : Expr} {r : List Expr} {p pos : Pos} (C : Cok L G c k lb X W) (h1 : L.nm n = some z) (h2 : glB X.env.scope z = true) (hs : (a :: r).all sh = true) (ha : SA L X W es (a :: r)) :
    SE L X W (caF c n es) (.Call (.Name z p) (a :: r) [] pos) := by
  intro av hd σ env H m Q rm re g
  obtain ⟨hg, hdb, _⟩ := gl_of h2
  obtain ⟨f, e0, e1⟩ := C.lf.fn n z h1
  obtain ⟨e2, fd, ps, e3, e4⟩ := C.lf.ok n f e0
  simp only [List.all_cons, Bool.and_eq_true] at hs
  refine wp_of (pe_callS (E := fun σ cls d H' => W cls d σ H') e4 (C.room.mono (by omega)) hg e1 e2 e3 (fun σ => L2N.passAt C.tk σ) pa_w hdb (star_ok hs.1) (star_any hs.2)) ?_
  unfold caF at g
  exact ha av hd σ env H m _ rm re (g.bind fun vs m1 H1 _ g1 rm1 k1 xs rx => sp_of (G := G) rm1 g1 rx k1)
theorem se_call0 {G : Glob} {c : Nat → List SV → Mem → R SV} {k : Nat} {lb : Bool} {n : Nat} {z : Str} {p pos : Pos} (C : Cok L G c k lb X W) (h1 : L.nm n = some z) (h2 : glB X.env.scope z = true) :
    SE L X W (caF c n fun _ m => .ok [] m) (.Call (.Name z p) [] [] pos) := by
  intro av hd σ env H m Q rm re g pins s I
  obtain ⟨hg, hdb, _⟩ := gl_of h2
  obtain ⟨f, e0, e1⟩ := C.lf.fn n z h1
  obtain ⟨e2, fd, ps, e3, e4⟩ := C.lf.ok n f e0
  have q := sp_of (G := G) (W := W) (n := n) (c := c) (vs := []) (xs := []) (σ := σ) (H0 := H) rm .refl .nil g
  refine wpAny_Call_Name_kw (ld_glob I hg e1 ?_ hdb)
  exact PySem.W.callWith_K0 I.kIn e2 (run_fnS (E := fun σ cls d H' => W cls d σ H') (us := []) e4 (C.room.mono (by omega)) e3 (L2N.passAt C.tk σ) I .nil q)
def cvF (c : Nat → List SV → Mem → R SV) (i : Nat) (es : EnvT → Mem → R (List SV)) : EnvT → Mem → R SV := fun env m => match env[i]? with
    | some (some (.f n)) => (es env m).bind fun vs m => match vs.mapM toA with
      | some args => c n args m
      | none => .no
    | _ => .no
theorem se_cav {G : Glob} {c : Nat → List SV → Mem → R SV} {k : Nat} {lb : Bool} {i : Nat} {z : Str} {es : EnvT → Mem → R (List SV)} {a : Expr} {r : List Expr} {p pos : Pos} (C : Cok L G c k lb X W) (h2 : visB X.N X.env.scope i z = true) (hs : (a :: r).all sh = true) (ha : SA L X W es (a :: r)) :
    SE L X W (cvF c i es) (.Call (.Name z p) (a :: r) [] pos) := by
  intro av hd σ env H m Q rm re g pins s I
  obtain ⟨h1, h2, h3, h4⟩ := vis_of h2
  simp only [List.all_cons, Bool.and_eq_true] at hs
  unfold cvF at g
  cases q : env[i]? with
  | none => rw [q] at g; exact g.elim
  | some o =>
    cases o with
    | none => rw [q] at g; exact g.elim
    | some v =>
      obtain ⟨x, ex, rx⟩ := re.sl i v q
      cases v with
      | f n =>
        rw [q] at g
        obtain ⟨f, e0, rfl⟩ := rx
        refine wpAny_Call_Name_kw (thn ((pe_var (pos := p) h1 h2 h3 h4).run pins s σ H (fun v H1 => v = .ref f ∧ H1 = H) I ⟨_, ex, rfl, rfl⟩) fun u s1 w => ?_)
        obtain ⟨v, H1, I1, r1, ev, eH⟩ := w
        subst ev eH
        cases r1
        obtain ⟨e2, fd, ps, e3, e4⟩ := C.lf.ok n f e0
        have hA := ha av hd σ env H1 m (fun xs H2 => spF L X.K c n xs H2 Q (fun cls d H' => W cls d σ H')) rm re (g.bind fun vs m1 H2 _ g1 rm1 k1 xs rx => sp_of (G := G) rm1 g1 rx k1)
        refine PySem.W.callWith_K (h₀ := X.base) I1.ok.mod.kin e2 (thn (hA pos pins s1 I1) fun us s2 w => ?_) (star_ok hs.1) (star_any hs.2)
        obtain ⟨vs, H2, I2, r2, q2⟩ := w
        exact ⟨I2.kIn, run_fnS (E := fun σ cls d H' => W cls d σ H') e4 (C.room.mono (by omega)) e3 (L2N.passAt C.tk σ) I2 r2 q2⟩
      | _ => rw [q] at g; exact g.elim
end
end Tn

set_option maxRecDepth 100000
set_option maxHeartbeats 1000000
/-! Tn14: calls of built-ins, methods of texts, a dict of the module's. -/
namespace Tn
open PySem PySem.Spec PyProof.Rows L2
section
variable {L : Link} {X : Cx} {W : WX} {T : List (Addr × Str)} {K : PySem.W.Frag} {fa : Nat → Option Addr} {av hd : List Addr} {H H0 H1 : Hp} {m : Mem} {x y : V} {v : SV} {d e : D} {Q : VK}
theorem bi_mem (b : Bi) : biN b ∈ bnames := by cases b <;> decide +kernel
theorem ty_mem (t : Ty) : tyS t ∈ bnames := by cases t <;> decide +kernel
theorem pe_blt {G : Glob} {c : Nat → List SV → Mem → R SV} {k : Nat} {lb : Bool} (C : Cok L G c k lb X W) (b : Bi) (h2 : glB X.env.scope (biN b) = true) {a : Expr} {r : List Expr} {p pos : Pos} (hs : (a :: r).all sh = true) :
    PE X (.Call (.Name (biN b) p) (a :: r) [] pos) (fun σ H Q => wpA X (a :: r) σ H fun vs H1 => wpC X (biV b) vs H1 Q) := by
  obtain ⟨hg, hdb, hnn⟩ := gl_of h2
  have hm := C.lf.bl _ (bi_mem b)
  have hv := bi_boot b
  simp only [List.all_cons, Bool.and_eq_true] at hs
  have ht : (∃ i, biV b = .builtin i) ∨ ∃ t, biV b = .type t := by cases b <;> first | exact .inl ⟨_, rfl⟩ | exact .inr ⟨_, rfl⟩
  rcases ht with ⟨i, e⟩ | ⟨t, e⟩
  · rw [e] at hv ⊢
    exact pe_callB cr_w hg hm hv pa_w hnn hdb (star_ok hs.1) (star_any hs.2)
  · rw [e] at hv ⊢
    exact pe_callTy cr_w hg hm hv pa_w hnn hdb (star_ok hs.1) (star_any hs.2)
theorem ros_of (sub : ∀ b ∈ av, b ∈ hd) {xs : List V} {vs : List SV} (h : RVs X.K fa av hd H0 H xs vs) : ∀ {ds : Ds}, vs.mapM opd = some ds → ROs X.K av hd H xs ds := by
  induction h with
  | nil => intro ds e; cases e; exact .nil
  | cons h1 h2 ih =>
    intro ds e
    rename_i x xs v vs
    rw [List.mapM_cons] at e
    cases q : opd v with
    | none => rw [q] at e; cases e
    | some d =>
      rw [q] at e
      cases q2 : vs.mapM opd with
      | none => rw [q2] at e; cases e
      | some ds' => rw [q2] at e; cases e; exact .cons (RO.of sub h1 q) (ih q2)
def blF (b : Bi) (es : EnvT → Mem → R (List SV)) : EnvT → Mem → R SV := fun env m => (es env m).bind fun vs m => match b, vs with
    | .len, [.s ns] => .ok (.d (.int ns.length)) m
    | _, _ => match vs.mapM opd with
      | some xs => lift (bltD b xs) m
      | none => .no
theorem se_blt {G : Glob} {c : Nat → List SV → Mem → R SV} {k : Nat} {lb : Bool} (C : Cok L G c k lb X W) {b : Bi} (hb : b ≠ .sset) (h2 : glB X.env.scope (biN b) = true) {es : EnvT → Mem → R (List SV)} {a : Expr} {r : List Expr} {p pos : Pos} (hs : (a :: r).all sh = true) (ha : SA L X W es (a :: r)) :
    SE L X W (blF b es) (.Call (.Name (biN b) p) (a :: r) [] pos) := by
  intro av hd σ env H m Q rm re g
  unfold blF at g
  refine wp_of (pe_blt C b h2 hs) (ha av hd σ env H m _ rm re (g.bind fun vs m1 H1 _ g1 rm1 k1 xs rx => ?_))
  have gen : Good L X.K av hd H1 (fun cls d H' => W cls d σ H') (match vs.mapM opd with | some xs => lift (bltD b xs) m1 | none => .no) (fun v _ H' => ∀ x, RV X.K L.fa av hd H H' x v → Q x H') → wpC X (biV b) xs H1 Q := fun k1 => by
    cases q : vs.mapM opd with
    | none => rw [q] at k1; exact k1.elim
    | some ds =>
      rw [q] at k1
      obtain ⟨w, ew, q2⟩ := k1.lift
      exact blt_ok b hb C.calm C.hu rm1 g1 (ros_of rm.sub rx q) ew fun H' z gz rz vz => q2 H' gz rz z vz
  split at k1
  · cases rx with | cons h1 h2 => cases h2 with | nil =>
    obtain ⟨l, rfl, hq⟩ := h1
    rename_i ns
    refine wpC_of call_len_seq ⟨l, _, rfl, .inl (sqL_le hide_le hq), ?_⟩
    rw [List.length_map]
    exact k1 H1 .refl rm1 _ (rp_int _)
  · exact gen k1
theorem se_isi {G : Glob} {c : Nat → List SV → Mem → R SV} {k : Nat} {lb : Bool} (C : Cok L G c k lb X W) {t : Ty} (h1 : glB X.env.scope "isinstance" = true) (h2 : glB X.env.scope (tyS t) = true) {ea : EnvT → Mem → R SV} {a : Expr} {p p2 pos : Pos} (hs : sh a = true) (ha : SE L X W ea a) :
    SE L X W (fun env m => bd (ea env m) fun x m => .ok (dbl (isiD x t)) m) (.Call (.Name "isinstance" p) [a, .Name (tyS t) p2] [] pos) := by
  intro av hd σ env H m Q rm re g
  obtain ⟨hg, hdb, hnn⟩ := gl_of h1
  obtain ⟨hg2, hdb2, hnn2⟩ := gl_of h2
  have ht : PE X (.Name (tyS t) p2) (tC (.ty (tyN t))) := pe_bltn (u := .type (tyN t)) hg2 (C.lf.bl _ (ty_mem t)) (ty_boot t) rfl hnn2 hdb2
  refine wp_of (pe_callB cr_w hg (C.lf.bl _ (by decide +kernel)) (by decide +kernel : bootBuiltins "isinstance" = some (.builtin "isinstance")) (pa_cons pe_w (pa_cons ht pa_nil) (star_ok hs)) hnn hdb (star_ok hs) (star_any (es := [.Name (tyS t) p2]) rfl)) ?_
  exact ha av hd σ env H m _ rm re (g.bd fun v x m1 H1 _ ox g1 rm1 k1 xv rx => isi_ok (RO.of rm.sub rx ox) t (k1 H1 .refl rm1 _ (rp_bl _)))
/-! ### texts -/
theorem strs_back : ∀ {ds : Ds} {us : List Str}, strsOf ds = some us → ds = us.map PyData.str
  | [], _, e => by cases e; rfl
  | d :: ds, ns, e => by
    cases d with
    | str i =>
      unfold strsOf at e
      cases q : strsOf ds with
      | none => rw [q] at e; cases e
      | some r => rw [q] at e; cases e; rw [strs_back q]; rfl
    | _ => simp [strsOf] at e
theorem star_one {a : Expr} (hs : sh a = true) : starEach [a] X.env = [(false, eval a X.env)] := star_ok hs
def mtF (k : Mt) (ea eb : EnvT → Mem → R SV) : EnvT → Mem → R SV := fun env m => bd (ea env m) fun x m => match x with
    | .str z => bd (eb env m) fun y m => lift (mthD k (.str z) [y]) m
    | _ => .no
theorem se_spl {ea eb : EnvT → Mem → R SV} {a b : Expr} {ap pos : Pos} (hn : noSup a = true) (hl : (ap.endLine == pos.line) = true) (hs : sh b = true) (ha : SE L X W ea a) (hb : SE L X W eb b) :
    SE L X W (mtF .split ea eb) (.Call (.Attribute a "split" ap) [b] [] pos) := by
  intro av hd σ env H m Q rm re g
  unfold mtF at g
  refine wp_of (pe_split pe_w pe_w (star_one hs) (base_ok hn) hl) (ha av hd σ env H m _ rm re (g.bd fun v x m1 H1 _ ox g1 rm1 k1 xv rx => ?_))
  cases x with
  | str z =>
    have rz := RO.of rm.sub rx ox
    cases rz.str
    refine ⟨⟨z, rfl⟩, hb av hd σ env H1 m1 _ rm1 (re.gr g1 rm.sub) (k1.bd fun v2 y m2 H2 _ oy g2 rm2 k2 yv ry => ?_)⟩
    obtain ⟨w, ew, q⟩ := k2.lift
    cases y with
    | str u =>
      have ru := RO.of rm.sub ry oy
      cases ru.str
      simp only [mthD] at ew
      split at ew
      · rename_i hc
        cases ew
        refine ⟨z, u, rfl, rfl, by simpa using hc.1, ?_, split_ok (fa := L.fa) rm2 (g1.trans g2) rz.lay ru.lay hc.1 fun H' w gz rz vz => q H' gz rz w vz⟩
        exact Nat.le_trans (Nat.add_le_add_right hc.2 2) (by decide)
      · cases ew
    | _ => simp [mthD] at ew
  | _ => exact k1.elim
theorem se_joi {ea eb : EnvT → Mem → R SV} {a b : Expr} {ap pos : Pos} (hn : noSup a = true) (hl : (ap.endLine == pos.line) = true) (hs : sh b = true) (ha : SE L X W ea a) (hb : SE L X W eb b) :
    SE L X W (mtF .join ea eb) (.Call (.Attribute a "join" ap) [b] [] pos) := by
  intro av hd σ env H m Q rm re g
  unfold mtF at g
  refine wp_of (pe_join pe_w pe_w (star_one hs) (base_ok hn) hl) (ha av hd σ env H m _ rm re (g.bd fun v x m1 H1 _ ox g1 rm1 k1 xv rx => ?_))
  cases x with
  | str z =>
    have rz := RO.of rm.sub rx ox
    cases rz.str
    refine ⟨⟨z, rfl⟩, hb av hd σ env H1 m1 _ rm1 (re.gr g1 rm.sub) (k1.bd fun v2 y m2 H2 _ oy g2 rm2 k2 yv ry => ?_)⟩
    obtain ⟨w, ew, q⟩ := k2.lift
    cases y with
    | list ds =>
      obtain ⟨l, zs, rfl, na, el, r⟩ := RO.of rm.sub ry oy
      simp only [mthD] at ew
      cases hs : strsOf ds with
      | none => rw [hs] at ew; cases ew
      | some us =>
        rw [hs] at ew
        simp only at ew
        split at ew
        · rename_i hc
          cases ew
          have ez := dqAll_strs hs r.1
          rw [ez] at el
          have asc_all : ∀ z ∈ us, ascS z = true := fun z hz => by
            have := strs_back hs
            rw [this] at r
            exact layAll_iff.mp r.2 (.str z) (List.mem_map.mpr ⟨z, hz, rfl⟩)
          refine ⟨z, l, us, rfl, rfl, .inl (.of el), Nat.le_trans hc (by decide), q H2 .refl rm2 _ ⟨.str _, ?_⟩⟩
          show ascS (Txt.join z us) = true
          have e : Txt.join z us = Str.join z us := StrLaws.glued_eq_join z us
          rw [e]
          exact asc_join rz.lay us asc_all
        · cases ew
    | _ => simp [mthD] at ew
  | _ => exact k1.elim
theorem se_upp {ea : EnvT → Mem → R SV} {a : Expr} {ap pos : Pos} (hn : noSup a = true) (hl : (ap.endLine == pos.line) = true) (ha : SE L X W ea a) :
    SE L X W (fun env m => bd (ea env m) fun x m => lift (mthD .upper x []) m) (.Call (.Attribute a "upper" ap) [] [] pos) := by
  intro av hd σ env H m Q rm re g
  refine wp_of (pe_upper pe_w (base_ok hn) hl) (ha av hd σ env H m _ rm re (g.bd fun v x m1 H1 _ ox g1 rm1 k1 xv rx => ?_))
  obtain ⟨w, ew, q⟩ := k1.lift
  cases x with
  | str z =>
    have rz := RO.of rm.sub rx ox
    cases rz.str
    simp only [mthD] at ew
    split at ew
    · rename_i hc
      cases ew
      exact ⟨⟨z, rfl⟩, z, rfl, rfl, Nat.le_trans hc (by decide), q H1 .refl rm1 _ ⟨.str _, asc_upper rz.lay⟩⟩
    · cases ew
  | _ => simp [mthD] at ew
/-! ### a dict of the module's -/
def kdF (t : Option (List (Str × D))) (ea : EnvT → Mem → R SV) : EnvT → Mem → R SV := fun env m => match t with
    | some t => bd (ea env m) fun x m => match x with
      | .str z => lift ((t.lookup z).map .d) m
      | _ => .no
    | none => .no
theorem se_kdc {G : Glob} {c : Nat → List SV → Mem → R SV} {k : Nat} {lb : Bool} (C : Cok L G c k lb X W) {n : Nat} {z : Str} (h1 : L.kn n = some z) (h2 : glB X.env.scope z = true) {ea : EnvT → Mem → R SV} {a : Expr} {p pos : Pos} (hs : sh a = true) (ha : SE L X W ea a) :
    SE L X W (kdF (G.gk n) ea) (.Subscript (.Name z p) a pos) := by
  intro av hd σ env H m Q rm re g
  obtain ⟨hg, hdb, hnn⟩ := gl_of h2
  unfold kdF at g
  cases ht : G.gk n with
  | none => rw [ht] at g; exact g.elim
  | some t =>
    rw [ht] at g
    obtain ⟨dd, e1, e2⟩ := C.lf.kd n z t h1 ht
    refine wp_of (pe_ix ix_kdict (pe_glob (v := .ref dd) hg e1 rfl hdb) pe_w (plain_ok hs)) ?_
    refine ha av hd σ env H m _ rm re (g.bd fun v x m1 H1 _ ox g1 rm1 k1 xv rx => ?_)
    cases x with
    | str u =>
      cases (RO.of rm.sub rx ox).str
      obtain ⟨w, ew, q⟩ := k1.lift
      cases hl : t.lookup u with
      | none => rw [hl] at ew; cases ew
      | some y =>
        rw [hl] at ew; cases ew
        obtain ⟨v0, h3, h4⟩ := e2 u y hl
        exact ⟨dd, u, v0, rfl, rfl, h3, q H1 .refl rm1 _ (h4 _ _)⟩
    | _ => exact k1.elim
/-! ### sorted(set(..)), list(range(..)) -/
theorem sort_ded {ms ns : List Int} (o1 : ms.Pairwise (· < ·)) (o2 : ∀ k, k ∈ ms ↔ k ∈ ns) : ms = sortI (dedI ns) := by
  have le : ms.Pairwise (· ≤ ·) := o1.imp fun h => Int.le_of_lt h
  have nd : ms.Nodup := o1.imp fun h => Int.ne_of_lt h
  refine sorted_uniq le (sortI_sorted _) (((List.perm_ext_iff_of_nodup nd (dedI_nodup ns)).mpr fun k => ?_).trans (sortI_perm _).symm)
  rw [o2, dedI_mem]
theorem ints_len : ∀ {ds : Ds} {ns : List Int}, intsOf ds = some ns → ds.length = ns.length
  | [], _, e => by cases e; rfl
  | d :: ds, ns, e => by
    cases d with
    | int i =>
      unfold intsOf at e
      cases q : intsOf ds with
      | none => rw [q] at e; cases e
      | some r => rw [q] at e; cases e; rw [List.length_cons, List.length_cons, ints_len q]
    | _ => simp [intsOf] at e
theorem wsmall {M : List (Addr × List Int)} {ts : List (List Int)} (h : ts.length < 2) (hm : ∀ z ∈ M.map (·.2), z ∈ ts) (nd : (M.map (·.2)).Nodup) : M.length < 2 ∨ ∀ p ∈ M, p.2 ≠ [] := by
  left
  match M, nd, hm with
  | [], _, _ => exact Nat.zero_lt_succ _
  | [_], _, _ => exact Nat.lt_succ_self _
  | a :: b :: r, nd, hm =>
    exfalso
    have h1 := hm a.2 (by simp)
    have h2 := hm b.2 (by simp)
    rw [List.map_cons, List.map_cons] at nd
    have ne : a.2 ≠ b.2 := fun e => (List.nodup_cons.mp nd).1 (by rw [e]; simp)
    match ts, h, h1, h2 with
    | [t], _, h1, h2 => exact ne ((List.mem_singleton.mp h1).trans (List.mem_singleton.mp h2).symm)
theorem tl_perm {P : List (Addr × List Int)} {ts : List (List Int)} (nd : (P.map (·.2)).Nodup) (so : SrT (P.map (·.2))) (h : ∀ k, k ∈ P.map (·.2) ↔ k ∈ ts) : P.map (·.2) = sortT (dedT ts) := by
  refine srT_uniq so (sortT_sr _) (((List.perm_ext_iff_of_nodup nd (dedT_nd ts)).mpr fun k => ?_).trans (sortT_perm _).symm)
  rw [h, dedT_mem]
theorem se_sse {G : Glob} {c : Nat → List SV → Mem → R SV} {k : Nat} {lb : Bool} (C : Cok L G c k lb X W) (h1 : glB X.env.scope "sorted" = true) (h2 : glB X.env.scope "set" = true) {ea : EnvT → Mem → R SV} {a : Expr} {p p2 p3 pos : Pos} (hs : sh a = true) (ha : SE L X W ea a) :
    SE L X W (fun env m => bd (ea env m) fun x m => lift ((ssetD x).map .own) m) (.Call (.Name "sorted" p) [.Call (.Name "set" p2) [a] [] p3] [] pos) := by
  intro av hd σ env H m Q rm re g
  obtain ⟨hg, hdb, hnn⟩ := gl_of h1
  obtain ⟨hg2, hdb2, hnn2⟩ := gl_of h2
  have hset : PE X (.Call (.Name "set" p2) [a] [] p3) (fun σ H Q => wpE X a σ H fun x H1 => wpC X (.type "set") [x] H1 Q) :=
    ⟨fun pins s σ H Q I h => (pe_callTy cr_w hg2 (C.lf.bl _ (by decide +kernel)) (by decide +kernel : bootBuiltins "set" = some (.type "set")) (pa_cons pe_w pa_nil (star_ok hs)) hnn2 hdb2 (star_one hs) rfl).run pins s σ H Q I h⟩
  refine wp_of (pe_callB cr_w hg (C.lf.bl _ (by decide +kernel)) (by decide +kernel : bootBuiltins "sorted" = some (.builtin "sorted")) (pa_cons hset pa_nil rfl) hnn hdb rfl rfl) ?_
  refine ha av hd σ env H m _ rm re (g.bd fun v x m1 H1 _ ox g1 rm1 k1 xv rx => ?_)
  obtain ⟨w, ew, q⟩ := k1.lift
  have ro := RO.of rm.sub rx ox
  cases hd' : ssetD x with
  | none => rw [hd'] at ew; cases ew
  | some ds' =>
  rw [hd'] at ew
  cases ew
  -- ints
  have hints : ∀ (l : Addr) (ns : List Int), xv = V.ref l → (SqL X.K H1 l (ns.map V.int) ∨ SqT X.K H1 l (ns.map V.int)) → ns.length < 64 → ds' = dI (sortI (dedI ns)) → wpC X (.type "set") [xv] H1 (fun sv H2 => wpC X (.builtin "sorted") [sv] H2 Q) := fun l ns e1 e2 e3 e4 => by
    subst e1 e4
    refine wpC_of (cr_setI C.calm) ⟨l, ns, rfl, e2, e3, fun p cc n hcl => ?_⟩
    refine wpC_of (cr_sortedSet C.calm) ⟨p, _, cc, rfl, upd_same, by omega, fun ms q' o1 o2 _ n2 => ?_⟩
    have gr2 : Gr av H1 (upd H1 p (SetO X.w p (fun j => decide (j ∈ ns)) cc)) := Gr.new n
    have rm2 := rm1.new (o := SetO X.w p (fun j => decide (j ∈ ns)) cc) n
    have em : ms = sortI (dedI ns) := sort_ded o1 fun z => by rw [o2]; simp
    rw [em]
    exact q _ (gr2.trans (Gr.new n2)) (rm2.new n2) _ (new_own rm2 (g1.trans gr2) n2 ⟨DqAll.nums _, layAll_ints _⟩)
  have tups : ∀ (l : Addr) (ks : List (Addr × List Int)), xv = V.ref l → SqL X.K H1 l (ks.map fun p => V.ref p.1) → (∀ p ∈ ks, SqT X.K (hide hd H1) p.1 (p.2.map V.int)) → ks.length < 64 → tOk (dedT (ks.map (·.2))) = true → ds' = dT (sortT (dedT (ks.map (·.2)))) → wpC X (.type "set") [xv] H1 (fun sv H2 => wpC X (.builtin "sorted") [sv] H2 Q) := fun l ks e1 e2 e3 e5 e6 e4 => by
    subst e1 e4
    have hu := C.hu
    refine wpC_of (cr_setOfT C.calm (by omega)) ⟨l, ks, rfl, e2, fun p hp => sqT_le hide_le (e3 p hp), e5, fun p M n hM hM2 => ?_⟩
    have gr2 : Gr av H1 (upd H1 p (SetTO X.prog X.w p M)) := Gr.new n
    have rm2 := rm1.new (o := SetTO X.prog X.w p M) n
    have le2 : Le (hide hd H1) (hide hd (upd H1 p (SetTO X.prog X.w p M))) := hide_gr gr2 rm1.sub
    have sq : ∀ r ∈ M, SqT X.K (hide hd (upd H1 p (SetTO X.prog X.w p M))) r.1 (r.2.map V.int) := fun r hr => sqT_le le2 (e3 r (hM r hr))
    have mem : ∀ z, z ∈ M.map (·.2) ↔ z ∈ ks.map (·.2) := fun z => ⟨fun hz => by
      obtain ⟨r, hr, e⟩ := List.mem_map.mp hz
      exact List.mem_map.mpr ⟨r, hM r hr, e⟩, fun hz => by
      obtain ⟨r, hr, e⟩ := List.mem_map.mp hz
      rw [← e]; exact hM2 r hr⟩
    refine wpC_of (cr_sortTS C.calm C.hu) ⟨p, M, rfl, upd_same, fun r hr => sqT_le hide_le (sq r hr), fun N q' pm nd so n2 => ?_⟩
    · have em := tl_perm nd so fun z => (show z ∈ N.map (·.2) ↔ z ∈ M.map (·.2) from (pm.map (·.2)).mem_iff).trans (mem z)
      have hN : ∀ r ∈ N, SqT X.K (hide hd (upd H1 p (SetTO X.prog X.w p M))) r.1 (r.2.map V.int) := fun r hr => sq r (pm.mem_iff.mp hr)
      rw [← em] at q
      exact q _ (gr2.trans (Gr.new n2)) (rm2.new n2) _ (new_own rm2 (g1.trans gr2) n2 ⟨tups_dq N hN, lay_dT _⟩)
  unfold ssetD at hd'
  split at hd'
  · rename_i ds
    split at hd'
    · rename_i hl
      cases e : intsOf ds with
      | none => rw [e] at hd'; cases hd'
      | some ns =>
        rw [e] at hd'
        cases hd'
        obtain ⟨l, xs, e1, s, r⟩ := ro.tup
        have ex := dqAll_ints e r.1
        subst ex
        exact hints l ns e1 (.inr (sqT_le hide_le s)) (by rw [← ints_len e]; exact hl) rfl
    · cases hd'
  · rename_i ds
    split at hd'
    · rename_i hl
      obtain ⟨l, xs, e1, na, el, r⟩ := ro
      cases e : intsOf ds with
      | some ns =>
        rw [e] at hd'
        cases hd'
        have ex := dqAll_ints e r.1
        subst ex
        exact hints l ns e1 (.inl (.of el)) (by rw [← ints_len e]; exact hl) rfl
      | none =>
        rw [e] at hd'
        simp only at hd'
        cases e2 : tupsOf ds with
        | none => rw [e2] at hd'; cases hd'
        | some ts =>
          rw [e2] at hd'
          simp only at hd'
          split at hd'
          · rename_i hk
            cases hd'
            obtain ⟨ks, rfl, rfl, e5⟩ := tups_back e2 r.1
            refine tups l ks e1 (.of el) e5 ?_ hk rfl
            have := r.1.len
            rw [List.length_map] at this
            rw [this]; exact hl
          · cases hd'
    · cases hd'
  · cases hd'
theorem rg_dI (n : Int) : rgV 0 n = ((List.range n.toNat).map fun i => ((i : Nat) : Int)).map V.int := by
  unfold rgV
  rw [List.map_map, Int.sub_zero]
  refine List.map_congr_left fun i _ => ?_
  simp
theorem se_lrg {G : Glob} {c : Nat → List SV → Mem → R SV} {k : Nat} {lb : Bool} (C : Cok L G c k lb X W) (h1 : glB X.env.scope "list" = true) (h2 : glB X.env.scope "range" = true) {ea : EnvT → Mem → R SV} {a : Expr} {p p2 p3 pos : Pos} (hs : sh a = true) (ha : SE L X W ea a) :
    SE L X W (fun env m => bd (ea env m) fun x m => match x with | .int n => if n ≤ 1000 ∧ 0 ≤ n then .ok (.own (dI ((List.range n.toNat).map fun i => ((i : Nat) : Int)))) m else .no | _ => .no) (.Call (.Name "list" p) [.Call (.Name "range" p2) [a] [] p3] [] pos) := by
  intro av hd σ env H m Q rm re g
  obtain ⟨hg, hdb, hnn⟩ := gl_of h1
  obtain ⟨hg2, hdb2, hnn2⟩ := gl_of h2
  refine wp_of (pe_listRg C.calm hg (C.lf.bl _ (by decide +kernel)) (prg_1 hg2 (C.lf.bl _ (by decide +kernel)) pe_w (star_ok hs)) rfl) ?_
  refine ha av hd σ env H m _ rm re (g.bd fun v x m1 H1 _ ox g1 rm1 k1 xv rx => ?_)
  cases x with
  | int n =>
    simp only at k1
    split at k1
    · rename_i hc
      cases (RO.of rm.sub rx ox).int
      refine ⟨n, rfl, RgOk.of_le (by omega) (by omega) (by omega) (by omega), fun q n2 => ?_⟩
      rw [rg_dI]
      exact k1 _ (Gr.new n2) (rm1.new n2) _ (new_own rm1 g1 n2 ⟨DqAll.nums _, layAll_ints _⟩)
    · exact k1.elim
  | _ => exact k1.elim
theorem se_trg {G : Glob} {c : Nat → List SV → Mem → R SV} {k : Nat} {lb : Bool} (C : Cok L G c k lb X W) (h1 : glB X.env.scope "tuple" = true) (h2 : glB X.env.scope "range" = true) {ea : EnvT → Mem → R SV} {a : Expr} {p p2 p3 pos : Pos} (hs : sh a = true) (ha : SE L X W ea a) :
    SE L X W (fun env m => bd (ea env m) fun x m => match x with | .int n => if n ≤ 1000 ∧ 0 ≤ n then .ok (.d (.tuple (dI ((List.range n.toNat).map fun i => ((i : Nat) : Int))))) m else .no | _ => .no) (.Call (.Name "tuple" p) [.Call (.Name "range" p2) [a] [] p3] [] pos) := by
  intro av hd σ env H m Q rm re g
  obtain ⟨hg, hdb, hnn⟩ := gl_of h1
  obtain ⟨hg2, hdb2, hnn2⟩ := gl_of h2
  refine wp_of (pe_tupRg C.calm hg (C.lf.bl _ (by decide +kernel)) (prg_1 hg2 (C.lf.bl _ (by decide +kernel)) pe_w (star_ok hs)) rfl) ?_
  refine ha av hd σ env H m _ rm re (g.bd fun v x m1 H1 _ ox g1 rm1 k1 xv rx => ?_)
  cases x with
  | int n =>
    simp only at k1
    split at k1
    · rename_i hc
      cases (RO.of rm.sub rx ox).int
      refine ⟨n, rfl, RgOk.of_le (by omega) (by omega) (by omega) (by omega), fun q n2 => ?_⟩
      rw [rg_dI]
      exact k1 _ (Gr.new n2) (rm1.new n2) _ (new_tup rm1 n2 ⟨DqAll.nums _, layAll_ints _⟩)
    · exact k1.elim
  | _ => exact k1.elim
end
end Tn

set_option maxRecDepth 100000
set_option maxHeartbeats 2000000
/-! TnE: enumerate of a tuple. -/
namespace PySem
open AutoSeq1 (wpAny_loadPart')
theorem Tn_en_meets {v : Value} {ob : Obj} {Hs : Heap → Prop} (B : Begins v ob Hs) : Meets (Builtin.«enumerate.__new__» ⟨[.type "enumerate", v], []⟩)
    (fun _ R u => Hs u.heap ∧ R (.ok (.ret (.ref (u.heap.push ob).objs.size))) { u with heap := (u.heap.push ob).push { cls := .type "enumerate", data := .fields #[.none, .bool false, .ref u.heap.objs.size, rawInt 0, .none, .none] } }) := by
  refine .of_wp fun prog w A R u hu => ?_
  obtain ⟨h0, g0, d0, t0, o0⟩ := u
  obtain ⟨b1, b2⟩ := hu
  have sb := sub_enumerate
  have it_ : ∀ {Ar : Around} {E2 : Value → Shared → Prop} {Q2 : Value → Shared → Prop}, Q2 (.ref h0.objs.size) ⟨h0.push ob, g0, d0, t0, o0⟩ → wpAny (model prog w) Ar (pyIter v) Q2 E2 ⟨h0, g0, d0, t0, o0⟩ := fun z => B.iter prog w _ _ ⟨h0, g0, d0, t0, o0⟩ _ b1 z
  wp_walk using it_
  refine wpAny_stack_any fun fr => wpAny_pure ?_
  split
  · rename_i cc _ _ _ _ _
    cases (cc == Value.type "enumerate") <;> (wp_walk using it_; exact ⟨_, rfl, b2⟩)
  · wp_walk using it_
    exact ⟨_, rfl, b2⟩
theorem Tn_en_call {prog : Program} {w : World} {A : Around} {E : Value → Shared → Prop} {s : Shared} {v : Value} {ob : Obj} {Hs : Heap → Prop} {Q : Value → Shared → Prop} (B : Begins v ob Hs) (b1 : Hs s.heap)
    (hq : ∀ g, IsEnum g (s.heap.objs.size + 1) s.heap.objs.size 0 .none → g.get? s.heap.objs.size = some ob → g.objs.size = s.heap.objs.size + 2 → (∀ b u, s.heap.get? b = some u → g.get? b = some u) → Q (.ref (s.heap.objs.size + 1)) { s with heap := g }) :
    wpAny (model prog w) A (call (.type "enumerate") [v]) Q E s := by
  refine callType_new F.called_enumerate (by decide) (F.typeCall_enumerate_1 _) (F.newCall_enumerate_1 _) (fun z => F.args_object_init_2 z _) F.entry_enumerate_new (Tn_en_meets B) ⟨b1, ?_⟩
  have sz : (s.heap.push ob).objs.size = s.heap.objs.size + 1 := Heap.size_push ..
  show _ ∧ _
  rw [sz]
  have en : IsEnum ((s.heap.push ob).push { cls := .type "enumerate", data := .fields #[.none, .bool false, .ref s.heap.objs.size, rawInt 0, .none, .none] }) (s.heap.objs.size + 1) s.heap.objs.size 0 .none := by
    have z := Heap.get?_push_size (s.heap.push ob) (o := { cls := .type "enumerate", data := .fields #[.none, .bool false, .ref s.heap.objs.size, rawInt 0, .none, .none] }) rfl
    rw [sz] at z; exact z
  exact ⟨⟨_, en, rfl⟩, hq _ en (Heap.get?_push_of_some _ (Heap.get?_push_size _ B.free)) (by rw [Heap.size_push, sz]) fun b u z => Heap.get?_push_of_some _ (Heap.get?_push_of_some _ z)⟩
end PySem
namespace Tn
open PySem PySem.Spec PyProof.Rows L2
/-- the tuple at a, each item in a new pair -/
def Itu (K : PySem.W.Frag) (a : Addr) : L2.It :=
  ⟨fun i H => ∃ (xs : List V) (x : V), SqT K H a xs ∧ xs[i]? = some x, fun i H v H2 => ∃ T x, v = .ref T ∧ H T = none ∧ H2 = upd H T (.tup [.int (i : Nat), x]) ∧ ∀ xs, SqT K H a xs → xs[i]? = some x, fun i H => ∃ xs : List V, SqT K H a xs ∧ xs.length = i⟩
theorem turn_enT {P : Program} {w : World} {K : PySem.W.Frag} {elts : List Expr} {kk : Nat} {tpos : Pos} (a e it : Addr) (hai : a ≠ it) :
    Turn P w K (.Tuple elts kk tpos) (Itu K a) [e, it] e (fun i h => (∃ old, IsEnum h e it ((i : Nat) : Int) old) ∧ h.IsTupleIter it a i ∧ e ≠ it) := by
  refine ⟨by simp, fun i h st b hb => ?_, fun i h h2 st k => ?_, ?_, ?_, fun A i s Q E st q => ?_⟩
  · obtain ⟨⟨old, x1⟩, ⟨o, x2, _, x3⟩, _⟩ := st
    rcases (by simpa using hb : b = e ∨ b = it) with z | z
    · rw [z]; exact ⟨_, x1, fun v q => nomatch q⟩
    · rw [z]; exact ⟨o, x2, fun v q => by rw [x3] at q; cases q⟩
  · obtain ⟨⟨old, x1⟩, x2, x3⟩ := st
    exact ⟨⟨old, k e (by simp) _ x1⟩, x2.at fun o q => k it (by simp) o q, x3⟩
  · intro X hP hw hK hc i pins s σ H E I hf st hg
    subst hP hw hK
    obtain ⟨⟨old, x1⟩, x2, x3⟩ := st
    obtain ⟨xs, x, hq, hx⟩ := hg
    obtain ⟨its, rv, p, hz⟩ := I.tuple hq
    obtain ⟨u, hu, ru⟩ := rv.get hx
    have el : e < s.heap.objs.size := Heap.lt_size x1
    have il : it < s.heap.objs.size := by obtain ⟨_, q, _⟩ := x2; exact Heap.lt_size q
    have al : a < s.heap.objs.size := by obtain ⟨_, q, _⟩ := p; exact Heap.lt_size q
    have hea : e ≠ a := fun z => by
      obtain ⟨o, q, r, _⟩ := p
      rw [← z, x1] at q; cases q; simp at r
    have hlt : i < its.toArray.size := by
      have := (List.getElem?_eq_some_iff.mp hu).1
      simpa using this
    refine wpAny_pyNext_enum_itemC (Draws.tuple (A := X.A.in1) (I.ok.hd hc) it a hai its.toArray) x1 ⟨x2, p⟩ hlt x3 (by simp only [List.mem_cons, List.not_mem_nil, or_false, not_or]; exact ⟨x3, hea⟩) fun y g tk hy ho hst hT hsz hk => ?_
    have ey : y = u := by
      rw [List.getElem?_toArray, hu] at hy
      cases hy; rfl
    subst ey
    refine ⟨_, rfl, wpAny_letOwnedTupleGo_enum (s := { s with heap := g, toks := tk + 1 }) ho fun g2 he2 sb => ?_⟩
    have hT2 : g2.get? s.heap.objs.size = some { cls := .type "tuple", data := .seq #[.int i tk, y] } := (sb.2 _ (Nat.ne_of_gt el)).trans hT
    have new : ObjOk X.prog X.w (upd H s.heap.objs.size (.tup [.int (i : Nat), x])) g2 s.heap.objs.size (.tup [.int (i : Nat), x]) :=
      ⟨by show 2 ≤ sizeLine; decide, [.int i tk, y], .cons ⟨_, rfl⟩ (.cons ru .nil), ⟨_, hT2, rfl, _, rfl⟩⟩
    have I1 : Inv X pins σ (upd H s.heap.objs.size (.tup [.int (i : Nat), x])) { s with heap := g2, toks := tk + 1 } :=
      I.turnedNew (ch := [e, it]) (fun b ob hb q => (sb.2 b (fun z => hb (by simp [z]))).trans (hk b ob (fun z => hb (by simp [z])) (fun z => hb (by simp [z])) q)) hf (Nat.le_refl _) new
    have hn : H s.heap.objs.size = none := I.hok.fresh (Nat.le_refl _)
    refine ⟨.ref s.heap.objs.size, _, I1, rfl, ⟨_, x, rfl, hn, rfl, fun ys hy => by rw [I.tuple_inj hy hq]; exact hx⟩, ⟨⟨y, ?_⟩, hst.1.at fun o q => (sb.2 it (Ne.symm x3)).trans q, x3⟩, fun b hb => ?_⟩
    · have c1 : ((i + 1 : Nat) : Int) = (i : Int) + 1 := by omega
      rw [c1]; exact he2
    · have hb2 : b < s.heap.objs.size := by
        rcases (by simpa using hb : b = e ∨ b = it) with z | z
        · rw [z]; exact el
        · rw [z]; exact il
      rw [upd_ne (Nat.ne_of_lt hb2)]
      exact (hf b hb).1
  · intro X hP hw hK hc i pins s σ H E I hf st hg
    subst hP hw hK
    obtain ⟨⟨old, x1⟩, x2, x3⟩ := st
    obtain ⟨xs, hq, hx⟩ := hg
    obtain ⟨its, rv, p, hz⟩ := I.tuple hq
    obtain ⟨f0, f1, f2, f3, f4, f5⟩ := hf it (by simp)
    have hl := rv.length
    have al : ∃ o, s.heap.get? a = some o ∧ o.cls = .type "tuple" := by obtain ⟨o, q, r, _⟩ := p; exact ⟨o, q, r⟩
    refine wpAny_pyNext_enum_endD (Draws.tuple (A := X.A.in1) (I.ok.hd hc) it a hai its.toArray) x1 ⟨?_, p⟩ fun g eb => ⟨rfl, I.turned (t' := s.toks) (fun b o hb q => eb b o hb q) f0 f1 f3 f4 f5⟩
    have e1 : its.toArray.size = i := by rw [List.size_toArray, ← hl, hx]
    rw [e1]; exact x2
  · obtain ⟨⟨_, x1⟩, _⟩ := st
    exact wpAny_pyIter_enum x1 q
def iEnT (K : PySem.W.Frag) (ta : TA) : TI := fun σ H R => ta σ H fun vs H1 => ∃ a xs, vs = [.ref a] ∧ ((SqL K H1 a xs ∧ R (Ite K a) H1) ∨ (SqT K H1 a xs ∧ R (Itu K a) H1))
theorem pi_enT {X : Cx} {e : Expr} {ta : TA} {p pos tpos : Pos} {elts : List Expr} {kk : Nat} (hg : Gl X "enumerate") (hm : X.mg "enumerate" = none) (ha : PA X [e] ta) (hs : starEach [e] X.env = [(false, eval e X.env)]) :
    PI X (.Tuple elts kk tpos) (.Call (.Name "enumerate" p) [e] [] pos) (iEnT X.K ta) := by
  refine ⟨fun pins s σ H R I h => Call_ (ld_blt I hg hm boot_enumerate (PyProof.Rows.callWith_type1 (thn (ha.run pos pins s σ H _ I h) fun us s1 w => ?_) hs rfl))⟩
  obtain ⟨vs, H1, I1, r1, a, xs, ex, q1⟩ := w
  subst ex
  cases r1 with
  | cons r rr =>
  cases rr
  cases r
  have fr : ∀ b ∈ [s1.heap.objs.size + 1, s1.heap.objs.size], FpOk X pins H1 b := fun b hb => by
    have hle : s1.heap.objs.size ≤ b := by
      rcases (by simpa using hb : b = s1.heap.objs.size + 1 ∨ b = s1.heap.objs.size) with z | z
      · rw [z]; exact Nat.le_add_right _ _
      · rw [z]; exact Nat.le_refl _
    exact I1.fpOk hle (I1.hok.fresh hle)
  rcases q1 with ⟨hq, q⟩ | ⟨hq, q⟩
  · obtain ⟨its, rv, p2, _⟩ := I1.list hq
    refine call_enumerate_list p2.isList fun g he hit hsz hk => wpAny_pyIter_enum he ?_
    exact ⟨s1.heap.objs.size + 1, _, _, _, H1, rfl, I1.kept (t' := s1.toks) hk, turn_enum a (s1.heap.objs.size + 1) s1.heap.objs.size, ⟨⟨.none, he⟩, hit, Nat.succ_ne_self _⟩, fr, q⟩
  · obtain ⟨its, rv, p2, _⟩ := I1.tuple hq
    have al : a < s1.heap.objs.size := by obtain ⟨_, q, _⟩ := p2; exact Heap.lt_size q
    refine Tn_en_call (begins_tuple a its.toArray) p2 fun g he hit hsz hk => wpAny_pyIter_enum he ?_
    exact ⟨s1.heap.objs.size + 1, _, _, _, H1, rfl, I1.kept (t' := s1.toks) hk, turn_enT a (s1.heap.objs.size + 1) s1.heap.objs.size (Nat.ne_of_lt al), ⟨⟨.none, he⟩, ⟨_, hit, rfl, rfl⟩, Nat.succ_ne_self _⟩, fr, q⟩
end Tn

set_option maxRecDepth 100000
set_option maxHeartbeats 1000000
/-! Tn15: what a loop walks. -/
namespace Tn
open PySem PySem.Spec PyProof.Rows L2

/-- what an iterator yields, item by item, while data stays data (pk: while all but the store stays) -/
structure Ylds (K : PySem.W.Frag) (fa : Nat → Option Addr) (av hd : List Addr) (H1 : Hp) (pk : Bool) (J : L2.It) (items : List SV) : Prop where
  go : ∀ hd' H' i v, Le (hide hd H1) (hide hd' H') → (pk = true → Gr av H1 H') → items[i]? = some v → J.go i H'
  yl : ∀ hd' H' i v x H3, Le (hide hd H1) (hide hd' H') → (pk = true → Gr av H1 H') → (∀ b ∈ hd', H' b ≠ none) → items[i]? = some v → J.yld i H' x H3 → (H3 = H' ∨ ∃ a xs, H' a = none ∧ H3 = upd H' a (.tup xs)) ∧ ∀ av', RV K fa av' hd' H' H3 x v
  sp : ∀ hd' H' i, Le (hide hd H1) (hide hd' H') → (pk = true → Gr av H1 H') → items.length = i → J.stop i H'
def wpI (X : Cx) (tg iter : Expr) : TI := fun σ H R => ∀ (pins : List (Addr × Obj)) (s : Shared), Inv X pins σ H s → wpAny (model X.prog X.w) X.A (eval iter X.env) (fun v s1 => wpAny (model X.prog X.w) X.A (pyIter v) (PIE X pins σ tg R) X.xe s1) X.xe s
theorem pi_w {X : Cx} {tg e : Expr} : PI X tg e (wpI X tg e) := ⟨fun pins s _ _ _ I h => h pins s I⟩
theorem wpI_of {X : Cx} {tg e : Expr} {t : TI} {σ : L2.St} {H : Hp} {R : L2.It → Hp → Prop} (h : PI X tg e t) (q : t σ H R) : wpI X tg e σ H R := fun pins s I => h.run pins s σ H R I q
def SI (L : Link) (X : Cx) (W : WX) (pk : Bool) (ev : EnvT → Mem → R (List SV)) (tg src : Expr) : Prop := ∀ (av hd : List Addr) (σ : L2.St) (env : EnvT) (H : Hp) (m : Mem) (Q : L2.It → Hp → Prop), RM L.T X.K av hd H m → REn X.K L.fa av hd H σ env →
  Good L X.K av hd H (fun cls d H' => W cls d σ H') (ev env m) (fun vs _ H' => ∀ J, Ylds X.K L.fa av hd H' pk J vs → Q J H') → wpI X tg src σ H Q

section
variable {L : Link} {X : Cx} {W : WX} {T : List (Addr × Str)} {K : PySem.W.Frag} {fa : Nat → Option Addr} {av hd hd' : List Addr} {H H0 H1 H' H3 : Hp} {m : Mem} {x y : V} {v : SV} {d e : D} {Q : VK} {pk : Bool}
/-- a list that is to be walked -/
def RWk (K : PySem.W.Frag) (av hd : List Addr) (H : Hp) (pk : Bool) (a : Addr) (xs : List V) (ds : Ds) : Prop := (SqL K (hide hd H) a xs ∨ (pk = true ∧ a ∉ av ∧ H a = some (.lst xs))) ∧ RpAll K hd H xs ds
theorem RWk.at {a : Addr} {xs : List V} {ds : Ds} (h : RWk K av hd H1 pk a xs ds) (le : Le (hide hd H1) (hide hd' H')) (g : pk = true → Gr av H1 H') : SqL K H' a xs := by
  rcases h.1 with h | ⟨p, n, h⟩
  · exact sqL_le hide_le (sqL_le le h)
  · exact .of ((g p).st _ _ h n noT_lst)
theorem RWk.of (sub : ∀ b ∈ av, b ∈ hd) {ds : Ds} (hp : pkOk pk v = true) (h : RV K fa av hd H0 H x v) (e : opd v = some (.list ds)) : ∃ a xs, x = .ref a ∧ RWk K av hd H pk a xs ds := by
  cases v with
  | d z =>
    cases e
    obtain ⟨h1, h2⟩ := h
    cases h1 with
    | lst a b => exact ⟨_, _, rfl, .inl (.of a), b, lay_list.mp h2⟩
  | own ds =>
    cases e
    obtain ⟨a, xs, rfl, _, na, ea, r⟩ := h
    exact ⟨a, xs, rfl, .inl (.of (by rw [hide_out na]; exact ea)), r.le (hide_sub fun b hb => List.mem_cons_of_mem _ hb)⟩
  | p ds =>
    cases e
    obtain ⟨a, xs, rfl, na, ea, r⟩ := h
    exact ⟨a, xs, rfl, .inr ⟨hp, na, ea⟩, r⟩
  | _ => cases e
theorem RWk.gr (g : Gr av H H1) (sub : ∀ b ∈ av, b ∈ hd) {a : Addr} {xs : List V} {ds : Ds} (h : RWk K av hd H pk a xs ds) : RWk K av hd H1 pk a xs ds := by
  refine ⟨?_, h.2.le (hide_gr g sub)⟩
  rcases h.1 with h | ⟨p, n, h⟩
  · exact .inl (sqL_le (hide_gr g sub) h)
  · exact .inr ⟨p, n, g.st _ _ h n noT_lst⟩
theorem getP {α : Type} {ds : List α} {f : α → SV} {i : Nat} (h : (ds.map f)[i]? = some v) : ∃ d, ds[i]? = some d ∧ v = f d := by
  rw [List.getElem?_map] at h
  cases q : ds[i]? with
  | none => rw [q] at h; cases h
  | some d => rw [q] at h; cases h; exact ⟨d, rfl, rfl⟩
theorem yl_list {a : Addr} {xs : List V} {ds : Ds} (h : RWk K av hd H1 pk a xs ds) : Ylds K fa av hd H1 pk (Itl K a) (ds.map .d) := by
  refine ⟨fun hd' H' i v le g e => ?_, fun hd' H' i v x H3 le g al e y => ?_, fun hd' H' i le g n0 => ?_⟩
  · obtain ⟨d, e1, rfl⟩ := getP e
    obtain ⟨z, e2, e3⟩ := h.2.1.get e1
    exact ⟨xs, z, h.at le g, e2⟩
  · obtain ⟨d, e1, rfl⟩ := getP e
    obtain ⟨z, e2, e3⟩ := h.2.1.get e1
    obtain ⟨rfl, y⟩ := y
    have := y xs (h.at le g)
    rw [e2] at this; cases this
    exact ⟨.inl rfl, fun _ => ⟨dq_le le _ _ e3, h.2.2.get e1⟩⟩
  · have n := Nat.le_of_eq n0
    refine ⟨xs, h.at le g, ?_⟩
    rw [List.length_map] at n
    rw [h.2.1.len]; exact n
theorem yl_tup {a : Addr} {xs : List V} {ds : Ds} (h : SqT K (hide hd H1) a xs) (r : RpAll K hd H1 xs ds) : Ylds K fa av hd H1 pk (Itt K a) (ds.map .d) := by
  refine ⟨fun hd' H' i v le g e => ?_, fun hd' H' i v x H3 le g al e y => ?_, fun hd' H' i le g n0 => ?_⟩
  · obtain ⟨d, e1, rfl⟩ := getP e
    obtain ⟨z, e2, e3⟩ := r.1.get e1
    exact ⟨xs, z, sqT_le hide_le (sqT_le le h), e2⟩
  · obtain ⟨d, e1, rfl⟩ := getP e
    obtain ⟨z, e2, e3⟩ := r.1.get e1
    obtain ⟨rfl, y⟩ := y
    have := y xs (sqT_le hide_le (sqT_le le h))
    rw [e2] at this; cases this
    exact ⟨.inl rfl, fun _ => ⟨dq_le le _ _ e3, r.2.get e1⟩⟩
  · have n := Nat.le_of_eq n0
    refine ⟨xs, sqT_le hide_le (sqT_le le h), ?_⟩
    rw [List.length_map] at n
    rw [r.1.len]; exact n
theorem rng_get {lo : Int} {n i : Nat} (h : (rngD lo n)[i]? = some v) : i < n ∧ v = .d (.int (lo + (i : Nat))) := by
  obtain ⟨j, e, rfl⟩ := getP h
  have hlt : i < n := by
    have := (List.getElem?_eq_some_iff.mp e).1
    simpa using this
  rw [List.getElem?_range hlt] at e
  cases e
  exact ⟨hlt, rfl⟩
theorem yl_rng {lo : Int} {n : Nat} : Ylds K fa av hd H1 pk (Itr lo n) (rngD lo n) := by
  refine ⟨fun hd' H' i v le g e => (rng_get e).1, fun hd' H' i v x H3 le g al e y => ?_, fun hd' H' i le g h0 => ?_⟩
  · obtain ⟨rfl, rfl⟩ := y
    obtain ⟨_, rfl⟩ := rng_get e
    exact ⟨.inl rfl, fun _ => rp_int _⟩
  · have h := Nat.le_of_eq h0
    have : (rngD lo n).length = n := by unfold rngD; simp
    rw [this] at h; exact h
theorem pair_new {a : Addr} {u w : V} {p q : D} (al : ∀ b ∈ hd', H' b ≠ none) (n : H' a = none) (h1 : Rp K hd' H' u p) (h2 : Rp K hd' H' w q) : RV K fa av hd' H' (upd H' a (.tup [u, w])) (.ref a) (.d (.tuple [p, q])) := by
  have nh : a ∉ hd' := fun z => al a z n
  have le : Le (hide hd' H') (hide hd' (upd H' a (.tup [u, w]))) := fun b o e _ => by
    obtain ⟨nb, eb⟩ := hide_some e
    rw [hide_out nb, upd_ne (ne_of_none eb n)]; exact eb
  refine ⟨.tup (.of (by rw [hide_out nh]; exact upd_same)) (.cons (dq_le le _ _ h1.1) (.cons (dq_le le _ _ h2.1) .nil)), ?_⟩
  have a1 := h1.2; have a2 := h2.2
  simp only [Lay, asc, ascAll, Bool.and_true, Bool.and_eq_true] at a1 a2 ⊢
  exact ⟨a1, a2⟩
theorem enum_get {ds : Ds} {i : Nat} (h : (enumD ds)[i]? = some v) : ∃ d, ds[i]? = some d ∧ v = .d (.tuple [.int (i : Nat), d]) := by
  obtain ⟨p, e, rfl⟩ := getP h
  rw [List.getElem?_zipIdx] at e
  cases q : ds[i]? with
  | none => rw [q] at e; cases e
  | some d => rw [q] at e; cases e; exact ⟨d, rfl, by simp⟩
theorem yl_enum {a : Addr} {xs : List V} {ds : Ds} (h : RWk K av hd H1 pk a xs ds) : Ylds K fa av hd H1 pk (Ite K a) (enumD ds) := by
  refine ⟨fun hd' H' i v le g e => ?_, fun hd' H' i v x H3 le g al e y => ?_, fun hd' H' i le g n0 => ?_⟩
  · obtain ⟨d, e1, rfl⟩ := enum_get e
    obtain ⟨z, e2, e3⟩ := h.2.1.get e1
    exact ⟨xs, z, h.at le g, e2⟩
  · obtain ⟨d, e1, rfl⟩ := enum_get e
    obtain ⟨z, e2, e3⟩ := h.2.1.get e1
    obtain ⟨t, z', rfl, nt, rfl, y⟩ := y
    have := y xs (h.at le g)
    rw [e2] at this; cases this
    exact ⟨.inr ⟨t, _, nt, rfl⟩, fun _ => pair_new al nt (rp_int _) ⟨dq_le le _ _ e3, h.2.2.get e1⟩⟩
  · have n := Nat.le_of_eq n0
    refine ⟨xs, h.at le g, ?_⟩
    have : (enumD ds).length = ds.length := by unfold enumD; simp
    rw [this] at n
    rw [h.2.1.len]; exact n
theorem yl_enT {a : Addr} {xs : List V} {ds : Ds} (h : SqT K (hide hd H1) a xs) (r : RpAll K hd H1 xs ds) : Ylds K fa av hd H1 pk (Itu K a) (enumD ds) := by
  refine ⟨fun hd' H' i v le g e => ?_, fun hd' H' i v x H3 le g al e y => ?_, fun hd' H' i le g n0 => ?_⟩
  · obtain ⟨d, e1, rfl⟩ := enum_get e
    obtain ⟨z, e2, e3⟩ := r.1.get e1
    exact ⟨xs, z, sqT_le hide_le (sqT_le le h), e2⟩
  · obtain ⟨d, e1, rfl⟩ := enum_get e
    obtain ⟨z, e2, e3⟩ := r.1.get e1
    obtain ⟨t, z', rfl, nt, rfl, y⟩ := y
    have := y xs (sqT_le hide_le (sqT_le le h))
    rw [e2] at this; cases this
    exact ⟨.inr ⟨t, _, nt, rfl⟩, fun _ => pair_new al nt (rp_int _) ⟨dq_le le _ _ e3, r.2.get e1⟩⟩
  · refine ⟨xs, sqT_le hide_le (sqT_le le h), ?_⟩
    have : (enumD ds).length = ds.length := by unfold enumD; simp
    rw [this] at n0
    rw [r.1.len]; exact n0
theorem zip_get {ds es : Ds} {i : Nat} (h : (zipD ds es)[i]? = some v) : ∃ d e, ds[i]? = some d ∧ es[i]? = some e ∧ v = .d (.tuple [d, e]) := by
  obtain ⟨p, e, rfl⟩ := getP h
  rw [List.getElem?_zip_eq_some] at e
  exact ⟨p.1, p.2, e.1, e.2, rfl⟩
theorem yl_zip {a b : Addr} {xs ys : List V} {ds es : Ds} (h : RWk K av hd H1 pk a xs ds) (h' : RWk K av hd H1 pk b ys es) : Ylds K fa av hd H1 pk (Itz K a b) (zipD ds es) := by
  refine ⟨fun hd' H' i v le g e => ?_, fun hd' H' i v x H3 le g al e y => ?_, fun hd' H' i le g n0 => ?_⟩
  · obtain ⟨d, d', e1, e1', rfl⟩ := zip_get e
    obtain ⟨z, e2, e3⟩ := h.2.1.get e1
    obtain ⟨z', e2', e3'⟩ := h'.2.1.get e1'
    exact ⟨xs, ys, z, z', h.at le g, h'.at le g, e2, e2'⟩
  · obtain ⟨d, d', e1, e1', rfl⟩ := zip_get e
    obtain ⟨z, e2, e3⟩ := h.2.1.get e1
    obtain ⟨z', e2', e3'⟩ := h'.2.1.get e1'
    obtain ⟨t, w, w', rfl, nt, rfl, y, y'⟩ := y
    have := y xs (h.at le g)
    rw [e2] at this; cases this
    have := y' ys (h'.at le g)
    rw [e2'] at this; cases this
    exact ⟨.inr ⟨t, _, nt, rfl⟩, fun _ => pair_new al nt ⟨dq_le le _ _ e3, h.2.2.get e1⟩ ⟨dq_le le _ _ e3', h'.2.2.get e1'⟩⟩
  · have n := Nat.le_of_eq n0
    refine ⟨xs, ys, h.at le g, h'.at le g, ?_⟩
    have : (zipD ds es).length = min ds.length es.length := by unfold zipD; simp
    rw [this] at n
    rw [h.2.1.len, h'.2.1.len]
    omega

/-! ### the rules -/
def iSeq (K : PySem.W.Frag) (tl : TE) : TI := fun σ H R => tl σ H fun x H1 => ∃ a, x = .ref a ∧ (((∃ xs, SqL K H1 a xs) ∧ R (Itl K a) H1) ∨ ((∃ xs, SqT K H1 a xs) ∧ R (Itt K a) H1))
theorem pi_seq {tg l : Expr} {tl : TE} (hl : PE X l tl) : PI X tg l (iSeq X.K tl) := by
  refine ⟨fun pins s σ H R I h => thn (hl.run pins s σ H _ I h) fun v s1 w => ?_⟩
  obtain ⟨x, H1, I1, r1, a, e, q⟩ := w
  subst e
  cases r1
  have fr : ∀ b ∈ [s1.heap.objs.size], FpOk X pins H1 b := fun b hb => by
    have e : b = s1.heap.objs.size := by simpa using hb
    subst e
    exact I1.fpOk (Nat.le_refl _) (I1.hok.fresh (Nat.le_refl _))
  rcases q with ⟨⟨xs, hq⟩, q⟩ | ⟨⟨xs, hq⟩, q⟩
  · obtain ⟨its, rv, p, hz⟩ := I1.list hq
    refine wpAny_pyIter_list p.isList ?_
    exact ⟨_, _, _, _, H1, rfl, I1.kept (t' := s1.toks) fun b o e => Heap.get?_push_of_some _ e, turn_list a _, ⟨_, Heap.get?_push_size _ rfl, rfl, rfl⟩, fr, q⟩
  · obtain ⟨its, rv, p, hz⟩ := I1.tuple hq
    refine wpAny_pyIter_tuple (show s1.heap.IsTuple a its.toArray from p) ?_
    exact ⟨_, _, _, _, H1, rfl, I1.kept (t' := s1.toks) fun b o e => Heap.get?_push_of_some _ e, turn_tuple a _, ⟨_, Heap.get?_push_size _ rfl, rfl, rfl⟩, fr, q⟩
def daF (pk : Bool) (ea : EnvT → Mem → R SV) : EnvT → Mem → R (List SV) := fun env m => (ea env m).bind fun v m => if pkOk pk v = true then match opd v with
      | some x => match seqOf x with
        | some ds => .ok (ds.map .d) m
        | none => .no
      | none => .no
    else .no
theorem RO_tup {ds : Ds} (sub : ∀ b ∈ av, b ∈ hd) (h : RV K fa av hd H0 H x v) (e : opd v = some (.tuple ds)) : ∃ a xs, x = .ref a ∧ SqT K (hide hd H) a xs ∧ RpAll K hd H xs ds := RO.tup (RO.of sub h e)
theorem si_dat {ea : EnvT → Mem → R SV} {tg a : Expr} (ha : SE L X W ea a) : SI L X W pk (daF pk ea) tg a := by
  intro av hd σ env H m Q rm re g
  unfold daF at g
  refine wpI_of (pi_seq pe_w) (ha av hd σ env H m _ rm re (g.bind fun v m1 H1 _ g1 rm1 k1 xv rx => ?_))
  split at k1
  · rename_i hp
    cases q : opd v with
    | none => simp only [q] at k1; exact k1.elim
    | some x =>
      simp only [q] at k1
      cases x with
      | list ds =>
        obtain ⟨a, xs, rfl, r⟩ := RWk.of rm.sub hp rx q
        exact ⟨a, rfl, .inl ⟨⟨xs, r.at .refl fun _ => .refl⟩, k1 H1 .refl rm1 _ (yl_list r)⟩⟩
      | tuple ds =>
        obtain ⟨a, xs, rfl, s, r⟩ := RO_tup rm.sub rx q
        exact ⟨a, rfl, .inr ⟨⟨xs, sqT_le hide_le s⟩, k1 H1 .refl rm1 _ (yl_tup s r)⟩⟩
      | _ => exact k1.elim
  · exact k1.elim
theorem bn_mem {x : Str} (h : bnames.contains x = true) : x ∈ bnames := by simpa using h
def rgF (ea : EnvT → Mem → R SV) : EnvT → Mem → R (List SV) := fun env m => (ea env m).bind fun v m => match v with
    | .d (.int n) => if n ≤ 1000000 then if -1000000 ≤ n then .ok (rngD 0 n.toNat) m else .no else .no
    | _ => .no
theorem si_rng {G : Glob} {c : Nat → List SV → Mem → R SV} {k : Nat} {lb : Bool} (C : Cok L G c k lb X W) (h2 : glB X.env.scope "range" = true) {ea : EnvT → Mem → R SV} {tg a : Expr} {p pos : Pos} (hs : sh a = true) (ha : SE L X W ea a) : SI L X W pk (rgF ea) tg (.Call (.Name "range" p) [a] [] pos) := by
  intro av hd σ env H m Q rm re g
  obtain ⟨hg, hdb, hnn⟩ := gl_of h2
  unfold rgF at g
  refine wpI_of (pi_range1 hg (C.lf.bl _ (by decide +kernel)) (pa_cons pe_w pa_nil (star_ok hs)) (star_one hs)) (ha av hd σ env H m _ rm re (g.bind fun v m1 H1 _ g1 rm1 k1 xv rx => ?_))
  split at k1
  · rename_i n _
    split at k1
    · split at k1
      · cases (show Dq X.K (hide hd H1) xv (.int n) from rx.1)
        exact ⟨n, rfl, by omega, by omega, k1 H1 .refl rm1 _ yl_rng⟩
      · exact k1.elim
    · exact k1.elim
  · exact k1.elim
def rg2F (ea eb : EnvT → Mem → R SV) : EnvT → Mem → R (List SV) := fun env m => (ea env m).bind fun v m => (eb env m).bind fun w m => match v, w with
    | .d (.int i), .d (.int j) => if -1000000 ≤ i ∧ j ≤ 1000000 ∧ i ≤ 1000000 ∧ -1000000 ≤ j then .ok (rngD i (j - i).toNat) m else .no
    | _, _ => .no
theorem si_rng2 {G : Glob} {c : Nat → List SV → Mem → R SV} {k : Nat} {lb : Bool} (C : Cok L G c k lb X W) (h2 : glB X.env.scope "range" = true) {ea eb : EnvT → Mem → R SV} {tg a b : Expr} {p pos : Pos} (hs : sh a = true) (hs2 : sh b = true) (ha : SE L X W ea a) (hb : SE L X W eb b) : SI L X W pk (rg2F ea eb) tg (.Call (.Name "range" p) [a, b] [] pos) := by
  intro av hd σ env H m Q rm re g
  obtain ⟨hg, hdb, hnn⟩ := gl_of h2
  unfold rg2F at g
  refine wpI_of (pi_range2 hg (C.lf.bl _ (by decide +kernel)) (pa_cons pe_w (pa_cons pe_w pa_nil (star_ok hs2)) (star_ok hs)) (by rw [star_ok hs, star_one hs2]) (star_one hs2)) (ha av hd σ env H m _ rm re (g.bind fun v m1 H1 _ g1 rm1 k1 xv rx => ?_))
  refine hb av hd σ env H1 m1 _ rm1 (re.gr g1 rm.sub) (k1.bind fun w m2 H2 _ g2 rm2 k2 yv ry => ?_)
  split at k2
  · rename_i i j _ _
    split at k2
    · rename_i hc
      cases (show Dq X.K (hide hd H1) xv (.int i) from rx.1)
      cases (show Dq X.K (hide hd H2) yv (.int j) from ry.1)
      exact ⟨i, j, rfl, ⟨by omega, by omega, by omega, by omega⟩, k2 H2 .refl rm2 _ yl_rng⟩
    · exact k2.elim
  · exact k2.elim
def enF (pk : Bool) (ea : EnvT → Mem → R SV) : EnvT → Mem → R (List SV) := fun env m => (ea env m).bind fun v m => if pkOk pk v = true then match opd v with
      | some (.list ds) => .ok (enumD ds) m
      | some (.tuple ds) => .ok (enumD ds) m
      | _ => .no
    else .no
theorem si_enm {G : Glob} {c : Nat → List SV → Mem → R SV} {k : Nat} {lb : Bool} (C : Cok L G c k lb X W) (h2 : glB X.env.scope "enumerate" = true) {ea : EnvT → Mem → R SV} {a : Expr} {p pos tpos : Pos} {elts : List Expr} {kk : Nat} (hs : sh a = true) (ha : SE L X W ea a) :
    SI L X W pk (enF pk ea) (.Tuple elts kk tpos) (.Call (.Name "enumerate" p) [a] [] pos) := by
  intro av hd σ env H m Q rm re g
  obtain ⟨hg, hdb, hnn⟩ := gl_of h2
  unfold enF at g
  refine wpI_of (pi_enT hg (C.lf.bl _ (by decide +kernel)) (pa_cons pe_w pa_nil (star_ok hs)) (star_one hs)) (ha av hd σ env H m _ rm re (g.bind fun v m1 H1 _ g1 rm1 k1 xv rx => ?_))
  split at k1
  · rename_i hp
    split at k1
    · rename_i ds q
      obtain ⟨a, xs, rfl, r⟩ := RWk.of rm.sub hp rx q
      exact ⟨a, xs, rfl, .inl ⟨r.at .refl fun _ => .refl, k1 H1 .refl rm1 _ (yl_enum r)⟩⟩
    · rename_i ds q
      obtain ⟨a, xs, rfl, s, r⟩ := RO_tup rm.sub rx q
      exact ⟨a, xs, rfl, .inr ⟨sqT_le hide_le s, k1 H1 .refl rm1 _ (yl_enT s r)⟩⟩
    · exact k1.elim
  · exact k1.elim
def ziF (pk : Bool) (ea eb : EnvT → Mem → R SV) : EnvT → Mem → R (List SV) := fun env m => (ea env m).bind fun v m => (eb env m).bind fun w m => if pkOk pk v = true ∧ pkOk pk w = true then match opd v, opd w with
      | some (.list xs), some (.list ys) => .ok (zipD xs ys) m
      | _, _ => .no
    else .no
theorem si_zip {G : Glob} {c : Nat → List SV → Mem → R SV} {k : Nat} {lb : Bool} (C : Cok L G c k lb X W) (h2 : glB X.env.scope "zip" = true) {ea eb : EnvT → Mem → R SV} {a b : Expr} {p pos tpos : Pos} {elts : List Expr} {kk : Nat} (hs : sh a = true) (hs2 : sh b = true) (ha : SE L X W ea a) (hb : SE L X W eb b) :
    SI L X W pk (ziF pk ea eb) (.Tuple elts kk tpos) (.Call (.Name "zip" p) [a, b] [] pos) := by
  intro av hd σ env H m Q rm re g
  obtain ⟨hg, hdb, hnn⟩ := gl_of h2
  unfold ziF at g
  refine wpI_of (pi_zip hg (C.lf.bl _ (by decide +kernel)) (pa_cons pe_w (pa_cons pe_w pa_nil (star_ok hs2)) (star_ok hs)) (star_ok hs) (star_any (es := [b]) (by simp [hs2]))) (ha av hd σ env H m _ rm re (g.bind fun v m1 H1 _ g1 rm1 k1 xv rx => ?_))
  refine hb av hd σ env H1 m1 _ rm1 (re.gr g1 rm.sub) (k1.bind fun w m2 H2 _ g2 rm2 k2 yv ry => ?_)
  split at k2
  · rename_i hp
    split at k2
    · rename_i ds es q q2
      obtain ⟨a, xs, rfl, r⟩ := RWk.of rm.sub hp.1 (rx.gr g2 rm.sub) q
      obtain ⟨b, ys, rfl, r2⟩ := RWk.of rm.sub hp.2 ry q2
      exact ⟨a, b, xs, ys, rfl, r.at .refl fun _ => .refl, r2.at .refl fun _ => .refl, k2 H2 .refl rm2 _ (yl_zip r r2)⟩
    · exact k2.elim
  · exact k2.elim
/-- .. the things at Z staying -/
structure Yld2 (K : PySem.W.Frag) (fa : Nat → Option Addr) (av hd : List Addr) (H1 : Hp) (Z : List Addr) (J : L2.It) (items : List SV) : Prop where
  go : ∀ hd' H' i v, Le (hide hd H1) (hide hd' H') → (∀ a ∈ Z, a ∉ av → ∀ xs, H1 a = some (.lst xs) → H' a = some (.lst xs)) → items[i]? = some v → J.go i H'
  yl : ∀ hd' H' i v x H3, Le (hide hd H1) (hide hd' H') → (∀ a ∈ Z, a ∉ av → ∀ xs, H1 a = some (.lst xs) → H' a = some (.lst xs)) → (∀ b ∈ hd', H' b ≠ none) → items[i]? = some v → J.yld i H' x H3 → (H3 = H' ∨ ∃ a xs, H' a = none ∧ H3 = upd H' a (.tup xs)) ∧ ∀ av', RV K fa av' hd' H' H3 x v
  sp : ∀ hd' H' i, Le (hide hd H1) (hide hd' H') → (∀ a ∈ Z, a ∉ av → ∀ xs, H1 a = some (.lst xs) → H' a = some (.lst xs)) → items.length = i → J.stop i H'
def SI2 (L : Link) (X : Cx) (W : WX) (ev : EnvT → Mem → R (List SV)) (tg src : Expr) : Prop := ∀ (av hd Z : List Addr) (σ : L2.St) (env : EnvT) (H : Hp) (m : Mem) (Q : L2.It → Hp → Prop), RM L.T X.K av hd H m → REn X.K L.fa av hd H σ env →
  (∀ (i : Nat) (ds : Ds) (a : Addr), env[i]? = some (some (SV.own ds)) → σ[i]? = some (some (V.ref a)) → a ∈ Z) →
  Good L X.K av hd H (fun cls d H' => W cls d σ H') (ev env m) (fun vs _ H' => ∀ J, Yld2 X.K L.fa av hd H' Z J vs → Q J H') → wpI X tg src σ H Q
theorem si2_of {ev : EnvT → Mem → R (List SV)} {tg src : Expr} (h : SI L X W false ev tg src) : SI2 L X W ev tg src := fun av hd Z σ env H m Q rm re _ g =>
  h av hd σ env H m Q rm re (g.imp fun vs m' H' _ _ _ q J y => q J ⟨fun hd' H' i v le _ e => y.go hd' H' i v le (fun z => nomatch z) e, fun hd' H' i v x H3 le _ al e yy => y.yl hd' H' i v x H3 le (fun z => nomatch z) al e yy, fun hd' H' i le _ n => y.sp hd' H' i le (fun z => nomatch z) n⟩)
theorem si2_var {G : Glob} {c : Nat → List SV → Mem → R SV} {i : Nat} {z : Str} {tg : Expr} {p : Pos} (h : visB X.N X.env.scope i z = true) : SI2 L X W (evI G c true (.dat (.var i))) tg (.Name z p) := by
  intro av hd Z σ env H m Q rm re hZ g
  obtain ⟨h1, h2, h3, h4⟩ := vis_of h
  cases e : env[i]? with
  | none =>
    refine (si_dat (pk := true) (se_var (G := G) (c := c) h)) av hd σ env H m Q rm re (g.imp fun vs m' H' e2 _ _ _ J _ => ?_)
    unfold evI evE at e2
    rw [e] at e2; cases e2
  | some o =>
    cases o with
    | none =>
      refine (si_dat (pk := true) (se_var (G := G) (c := c) h)) av hd σ env H m Q rm re (g.imp fun vs m' H' e2 _ _ _ J _ => ?_)
      unfold evI evE at e2
      rw [e] at e2; cases e2
    | some v =>
      by_cases hv : ∃ ds, v = .own ds
      · obtain ⟨ds, rfl⟩ := hv
        obtain ⟨x, k1, k2⟩ := re.sl i _ e
        obtain ⟨a, xs, rfl, q1, q2, q3, q4⟩ := k2
        have ha := hZ i ds a e k1
        have ev : evI G c true (.dat (.var i)) env m = .ok (ds.map .d) m := by
          unfold evI evE
          rw [e]; rfl
        rw [ev] at g
        have at_ : ∀ {H'}, (∀ a ∈ Z, a ∉ av → ∀ xs, H a = some (.lst xs) → H' a = some (.lst xs)) → SqL X.K H' a xs := fun z => .of (z a ha q2 xs q3)
        refine wpI_of (pi_seq (pe_var h1 h2 h3 h4)) ⟨_, k1, a, rfl, .inl ⟨⟨xs, .of q3⟩, g H .refl rm _ ⟨fun hd' H' i v le z e => ?_, fun hd' H' i v x H3 le z al e y => ?_, fun hd' H' i le z n0 => ?_⟩⟩⟩
        · obtain ⟨d, e1, rfl⟩ := getP e
          obtain ⟨w, e2, e3⟩ := q4.1.get e1
          exact ⟨xs, w, at_ z, e2⟩
        · obtain ⟨d, e1, rfl⟩ := getP e
          obtain ⟨w, e2, e3⟩ := q4.1.get e1
          obtain ⟨rfl, y⟩ := y
          have := y xs (at_ z)
          rw [e2] at this; cases this
          exact ⟨.inl rfl, fun _ => ⟨dq_le le _ _ e3, q4.2.get e1⟩⟩
        · have n := Nat.le_of_eq n0
          refine ⟨xs, at_ z, ?_⟩
          rw [List.length_map] at n
          rw [q4.1.len]; exact n
      · have ee : evI G c true (.dat (.var i)) env m = evI G c false (.dat (.var i)) env m := by
          unfold evI evE
          rw [e]
          cases v with
          | own ds => exact absurd ⟨ds, rfl⟩ hv
          | p ds =>
            obtain ⟨x, k1, k2⟩ := re.sl i _ e
            exact k2.elim
          | _ => rfl
        rw [ee] at g
        exact si2_of (si_dat (pk := false) (se_var (G := G) (c := c) h)) av hd Z σ env H m Q rm re hZ g
end
end Tn

set_option maxRecDepth 100000
set_option maxHeartbeats 1000000
/-! Tn16: targets; lists by comprehension. -/
namespace Tn
open PySem PySem.Spec PyProof.Rows L2
section
variable {L : Link} {X : Cx} {W : WX} {T : List (Addr × Str)} {K : PySem.W.Frag} {fa : Nat → Option Addr} {av hd hd' : List Addr} {H H0 H1 H' H3 : Hp} {m : Mem} {x y : V} {v : SV} {d e : D} {Q : VK} {pk : Bool} {σ σ' : L2.St} {env env' : EnvT}
/-! ### targets -/
theorem REn.set {i : Nat} (r : REn K fa av hd H σ env) (h : RSl K fa av hd H x v) (hi : i < env.length) : REn K fa av hd H (σ.set i (some x)) (env.set i (some v)) := by
  refine ⟨by rw [List.length_set, List.length_set, r.len], fun j w e => ?_⟩
  by_cases hj : i = j
  · subst hj
    rw [List.getElem?_set_self hi] at e
    cases e
    exact ⟨x, List.getElem?_set_self (by rw [← r.len]; exact hi), h⟩
  · rw [List.getElem?_set_ne hj] at e ⊢
    exact r.sl j w e
def wpG (X : Cx) (tg : Expr) : TG := fun v σ H Q => ∀ (pins : List (Addr × Obj)) (s : Shared) (u : Value), Inv X pins σ H s → RelV v u → wpAny (model X.prog X.w) X.A (assign tg X.env u) (fun _ s' => ∃ σ' H', Inv X pins σ' H' s' ∧ Q σ' H') X.xe s
theorem pg_w {X : Cx} {tg : Expr} : PG X tg (wpG X tg) := ⟨fun pins s _ _ _ u _ I r h => h pins s u I r⟩
theorem wpG_of {tg : Expr} {t : TG} {x : V} {Q : L2.St → Hp → Prop} (h : PG X tg t) (q : t x σ H Q) : wpG X tg x σ H Q := fun pins s u I r => h.run pins s σ H x u Q I r q
/-- a name that is stored at -/
def Sto (X : Cx) (z : Str) : Prop := Loc X.env.scope z ∧ (X.fn z = true ∨ X.env.scope.names.lookup z = some .local)
theorem sto_of {lo : Bool} {own : List Nat} {i : Nat} {z : Str} {p : Pos} (hN : X.N.Nodup) (hf : lo = false → X.env.scope.names.lookup z = some .cell → X.fn z = true)
    (h : tgB lo X.N X.env.scope own (.one i) (.Name z p) = true) : X.N[i]? = some z ∧ Sto X z ∧ i ∈ own := by
  unfold tgB at h
  simp only [Bool.and_eq_true, Bool.or_eq_true, decide_eq_true_eq, List.contains_eq_mem, Bool.not_eq_true'] at h
  obtain ⟨⟨h1, h2⟩, h3⟩ := h
  refine ⟨(vis_of h1).1, ?_, h2⟩
  rcases h3 with h3 | ⟨h4, h3⟩
  · exact ⟨.inl h3, .inr h3⟩
  · exact ⟨.inr h3, .inl (hf h4 h3)⟩
theorem sto_own {lo : Bool} {own : List Nat} {N : List Str} {sc : Scope} {i : Nat} {z : Str} {p : Pos} (h : tgB lo N sc own (.one i) (.Name z p) = true) : i ∈ own := by
  unfold tgB at h
  simp only [Bool.and_eq_true, List.contains_eq_mem, decide_eq_true_eq] at h
  exact h.1.2
def ownIs (own : List Nat) : Tg → Prop
  | .one i => i ∈ own
  | .tup is => ∀ i ∈ is, i ∈ own
/-- what comes of a target -/
def SG (L : Link) (X : Cx) (own : List Nat) (tg : Tg) (src : Expr) : Prop := ∀ (av hd : List Addr) (σ : L2.St) (env env' : EnvT) (H H0 : Hp) (x : V) (v : SV) (Q : L2.St → Hp → Prop), (∀ b ∈ av, b ∈ hd) → REn X.K L.fa av hd H σ env → RV X.K L.fa av hd H0 H x v → bindT tg v env = some env' →
  (∀ σ', REn X.K L.fa av hd H σ' env' → (∀ j, j ∉ own → σ'[j]? = σ[j]?) → Q σ' H) → wpG X src x σ H Q
def stL (σ : L2.St) : List (Nat × V) → L2.St
  | [] => σ
  | p :: r => stL (σ.set p.1 (some p.2)) r
theorem sg_names {lo : Bool} {own : List Nat} (hN : X.N.Nodup) : ∀ {is : List Nat} {es : List Expr}, (lo = false → ∀ z ∈ es.map nmOf, X.env.scope.names.lookup z = some .cell → X.fn z = true) → is.length = es.length → ((is.zip es).all fun p => tgB lo X.N X.env.scope own (.one p.1) p.2) = true → ∀ {xs : List V} {σ : L2.St} {H : Hp} {Q : L2.St → Hp → Prop}, xs.length = is.length → Q (stL σ (is.zip xs)) H →
    ∃ t, PGs X es t ∧ t xs σ H Q ∧ (assignEach es X.env).length = es.length ∧ (assignEach es X.env).findIdx? (·.1) = none
  | [], es, _, h0, _, xs, σ, H, Q, h2, h3 => by
    have : es = [] := List.eq_nil_of_length_eq_zero h0.symm
    subst this
    have : xs = [] := List.eq_nil_of_length_eq_zero h2
    subst this
    exact ⟨gNil, pgs_nil, ⟨rfl, h3⟩, rfl, rfl⟩
  | i :: is, e :: es, hf, h0, h1, x :: xs, σ, H, Q, h2, h3 => by
    rw [List.zip_cons_cons, List.all_cons, Bool.and_eq_true] at h1
    obtain ⟨h1, h4⟩ := h1
    have h0' : is.length = es.length := by simpa using h0
    have h2' : xs.length = is.length := by simpa using h2
    cases e with
    | Name z p =>
      obtain ⟨a1, a2, a3⟩ := sto_of hN (fun l => hf l z (by rw [List.map_cons]; exact List.mem_cons_self)) h1
      obtain ⟨t, b1, b2, b3, b4⟩ := sg_names (Q := Q) hN (fun l z hz => hf l z (by rw [List.map_cons]; exact List.mem_cons_of_mem _ hz)) h0' h4 (σ := σ.set i (some x)) (H := H) h2' h3
      refine ⟨gCons (gName i) t, pgs_cons (pg_name hN a1 a2.1 a2.2) b1 rfl, ⟨x, xs, rfl, b2⟩, ?_, ?_⟩
      · show (_ :: assignEach es X.env).length = _
        rw [List.length_cons, b3]; rfl
      · show List.findIdx? (·.1) ((false, _) :: assignEach es X.env) = none
        rw [List.findIdx?_cons, b4]; rfl
    | _ => simp [tgB] at h1
theorem stL_get : ∀ {ps : List (Nat × V)} {σ : L2.St} {j : Nat}, (∀ p ∈ ps, p.1 ≠ j) → (stL σ ps)[j]? = σ[j]?
  | [], _, _, _ => rfl
  | p :: r, σ, j, h => by
    show (stL (σ.set p.1 (some p.2)) r)[j]? = _
    rw [stL_get fun q hq => h q (List.mem_cons_of_mem _ hq), List.getElem?_set_ne (h p List.mem_cons_self)]
theorem sg_vals : ∀ {is : List Nat} {xs : List V} {ds : Ds} {σ : L2.St} {env : EnvT}, REn K fa av hd H σ env → RpAll K hd H xs ds → is.length = ds.length → (∀ i ∈ is, i < env.length) → REn K fa av hd H (stL σ (is.zip xs)) ((is.zip ds).foldl (fun e p => e.set p.1 (some (.d p.2))) env)
  | [], _, _, _, _, r, _, _, _ => by simpa [stL] using r
  | i :: is, xs, d :: ds, σ, env, r, h, hl, hi => by
    obtain ⟨h1, h2⟩ := h
    cases h1 with
    | cons a b =>
      simp only [LayAll, ascAll, Bool.and_eq_true] at h2
      rw [List.zip_cons_cons, List.zip_cons_cons, List.foldl_cons]
      refine sg_vals (r.set (v := .d d) ⟨a, h2.1⟩ (hi i List.mem_cons_self)) ⟨b, h2.2⟩ (by simpa using hl) fun j hj => ?_
      rw [List.length_set]
      exact hi j (List.mem_cons_of_mem _ hj)
theorem sg_of {lo : Bool} {own : List Nat} {tg : Tg} {src : Expr} (hc : X.calm = true) (hN : X.N.Nodup) (hf : lo = false → ∀ z ∈ tgNames src, X.env.scope.names.lookup z = some .cell → X.fn z = true) (h : tgB lo X.N X.env.scope own tg src = true) : SG L X own tg src := by
  intro av hd σ env env' H H0 x v Q sub re rv hb q
  cases tg with
  | one i =>
    cases src with
    | Name z p =>
      obtain ⟨a1, a2, a3⟩ := sto_of hN (fun l => hf l z (by simp [tgNames])) h
      refine wpG_of (pg_name hN a1 a2.1 a2.2) ?_
      have go : ∀ w, RSl X.K L.fa av hd H x w → i < env.length → env' = env.set i (some w) → Q (σ.set i (some x)) H := fun w hw hi e => by
        subst e
        exact q _ (re.set hw hi) fun j hj => List.getElem?_set_ne fun e => hj (by rw [← e]; exact a3)
      cases v with
      | d y =>
        simp only [bindT] at hb
        split at hb
        · cases hb; exact go (.d y) rv (by assumption) rfl
        · cases hb
      | f n =>
        simp only [bindT] at hb
        split at hb
        · cases hb; exact go (.f n) rv (by assumption) rfl
        · cases hb
      | _ => simp [bindT] at hb
    | _ => simp [tgB] at h
  | tup is =>
    cases src with
    | Tuple es k p =>
      unfold tgB at h
      simp only [Bool.and_eq_true, beq_iff_eq] at h
      obtain ⟨h1, h2⟩ := h
      cases v with
      | d y =>
        cases y with
        | tuple ds =>
          simp only [bindT] at hb
          split at hb
          · rename_i hc1
            cases hb
            obtain ⟨a, xs, rfl, s, r⟩ := RO_tup sub rv rfl
            have lx : xs.length = is.length := by rw [r.1.len, hc1.1]
            have h2' : ((is.zip es).all fun p => tgB lo X.N X.env.scope own (.one p.1) p.2) = true := by
              rw [List.all_eq_true] at h2 ⊢
              intro p hp
              have := h2 p hp
              split at this
              · rename_i z pz e
                rw [e]; exact this
              · cases this
            have own_of : ∀ p ∈ is.zip xs, p.1 ∈ own := fun p hp => by
              have hi := (List.of_mem_zip hp).1
              obtain ⟨j, hj, e⟩ := List.mem_iff_getElem.mp hi
              rw [List.all_eq_true] at h2
              have hj2 : j < es.length := by rw [← h1]; exact hj
              have hm : (is[j], es[j]) ∈ is.zip es := by
                refine List.mem_iff_getElem.mpr ⟨j, by rw [List.length_zip]; omega, ?_⟩
                rw [List.getElem_zip]
              have := h2 _ hm
              split at this
              · rename_i z pz e2
                have := sto_own (p := pz) this
                rw [← e]; exact this
              · cases this
            obtain ⟨t, b1, b2, b3, b4⟩ := sg_names (Q := Q) (H := H) hN (by simpa [tgNames] using hf) h1 h2' (σ := σ) lx (q _ (sg_vals re r hc1.1 fun i hi => by
              have := hc1.2
              rw [List.all_eq_true] at this
              exact of_decide_eq_true (this i hi)) fun j hj => stL_get fun p hp e => hj (by rw [← e]; exact own_of p hp))
            exact wpG_of (pg_tup hc b1 b3 b4) ⟨a, xs, rfl, sqT_le hide_le s, by rw [lx, h1], b2⟩
          · cases hb
        | _ => simp [bindT] at hb
      | _ => simp [bindT] at hb
    | _ => simp [tgB] at h
theorem setF_len : ∀ (l : List (Nat × D)) (env : EnvT), (l.foldl (fun e p => e.set p.1 (some (SV.d p.2))) env).length = env.length
  | [], _ => rfl
  | p :: r, env => by rw [List.foldl_cons, setF_len r, List.length_set]
theorem bindT_len {tg : Tg} (h : bindT tg v env = some env') : env'.length = env.length := by
  unfold bindT at h
  split at h
  · split at h
    · cases h; rw [List.length_set]
    · cases h
  · split at h
    · cases h; rw [List.length_set]
    · cases h
  · split at h
    · cases h; exact setF_len _ _
    · cases h
  · cases h
end
end Tn

set_option maxRecDepth 100000
set_option maxHeartbeats 1000000
/-! Tn17: lists by comprehension: one clause. -/
namespace Tn
open PySem PySem.Spec PyProof.Rows L2
section
variable {L : Link} {X : Cx} {W : WX} {T : List (Addr × Str)} {K : PySem.W.Frag} {fa : Nat → Option Addr} {av hd hd' : List Addr} {H H0 H1 H' H3 : Hp} {m : Mem} {x y : V} {v : SV} {d e : D} {Q : VK} {pk : Bool} {σ σ2 : L2.St} {env env' : EnvT}
theorem wipe_in {vs : List Nat} {j : Nat} (h : j ∈ vs) : (wipe σ vs)[j]? = if j < σ.length then some none else none := by
  induction vs with
  | nil => cases h
  | cons i r ih =>
    unfold wipe
    by_cases e : i = j
    · subst e
      split
      · rw [List.getElem?_set_self (by rw [wipe_length]; assumption)]
      · exact List.getElem?_eq_none (by rw [List.length_set, wipe_length]; omega)
    · rw [List.getElem?_set_ne e]
      exact ih ((List.mem_cons.mp h).resolve_left fun z => e z.symm)
theorem wipe_eq {vs : List Nat} (hl : σ2.length = σ.length) (h : ∀ j, j ∉ vs → σ2[j]? = σ[j]?) : wipe σ2 vs = wipe σ vs := by
  refine List.ext_getElem? fun j => ?_
  by_cases hj : j ∈ vs
  · rw [wipe_in hj, wipe_in hj, hl]
  · rw [wipe_out hj, wipe_out hj, h j hj]
theorem wipeE_len : ∀ (vs : List Nat), (wipeE env vs).length = env.length
  | [] => rfl
  | v :: vs => by unfold wipeE; rw [List.length_set, wipeE_len vs]
theorem wipeE_some {i : Nat} : ∀ {vs : List Nat}, (wipeE env vs)[i]? = some (some v) → env[i]? = some (some v) ∧ i ∉ vs
  | [], h => ⟨h, by simp⟩
  | w :: vs, h => by
    unfold wipeE at h
    by_cases hi : w = i
    · subst hi
      by_cases hv : w < (wipeE env vs).length
      · rw [List.getElem?_set_self hv] at h; cases h
      · rw [List.getElem?_eq_none (by simpa using hv)] at h; cases h
    · rw [List.getElem?_set_ne hi] at h
      obtain ⟨h1, h2⟩ := wipeE_some h
      exact ⟨h1, by simp only [List.mem_cons, not_or]; exact ⟨fun e => hi e.symm, h2⟩⟩
theorem REn.wipe (r : REn K fa av hd H σ env) (vs : List Nat) : REn K fa av hd H (L2.wipe σ vs) (wipeE env vs) := by
  refine ⟨by rw [wipeE_len, wipe_length, r.len], fun i v e => ?_⟩
  obtain ⟨e1, e2⟩ := wipeE_some e
  rw [wipe_out e2]
  exact r.sl i v e1
theorem RM.un {a : Addr} (r : RM T K av (a :: hd) H m) (s : ∀ b ∈ av, b ∈ hd) : RM T K av hd H m :=
  ⟨r.len, r.nd, s, fun k a o h1 h2 => by
    have q := r.mo k a o h1 h2
    cases o with
    | nums ns => exact q, r.tab, fun b hb => r.al b (List.mem_cons_of_mem _ hb)⟩
theorem Gr.own {a : Addr} {o : HO} (g : Gr av H1 H) (n : H1 a = none) : Gr av H1 (upd H a o) :=
  ⟨fun b u e nb t => by rw [upd_ne (ne_of_none e n)]; exact g.st b u e nb t, fun b h => upd_al b (g.al b h)⟩
/-- tests of a clause -/
def wpTs (X : Cx) (ifs : List Expr) : TT := fun σ H Q => ∀ (pins : List (Addr × Obj)) (s : Shared), Inv X pins σ H s →
    wpAny (model X.prog X.w) X.A (forIn ifs true fun c r => if r = true then do let ok ← isTrue c X.env (eval c X.env); pure (ForInStep.yield ok) else pure (ForInStep.yield r)) (TP X pins σ Q) X.xe s
theorem wpTs_of {ifs : List Expr} {t : TT} {Qb : Bool → Hp → Prop} (h : PTs X ifs t) (q : t σ H Qb) : wpTs X ifs σ H Qb := fun pins s I => h.run pins s σ H Qb I q
def STT (L : Link) (X : Cx) (W : WX) (ev : EnvT → Mem → R Bool) (srcs : List Expr) : Prop := ∀ (av hd : List Addr) (σ : L2.St) (env : EnvT) (H : Hp) (m : Mem) (Q : Bool → Hp → Prop), RM L.T X.K av hd H m → REn X.K L.fa av hd H σ env →
  Good L X.K av hd H (fun cls d H' => W cls d σ H') (ev env m) (fun b _ H' => Q b H') → wpTs X srcs σ H Q
def W0 : WX := fun _ _ _ _ => False
theorem stt_nil : STT L X W (fun _ m => .ok true m) [] := fun av hd σ env H m Q rm re g => wpTs_of pts_nil (g H .refl rm)
def teF (ea : EnvT → Mem → R SV) : EnvT → Mem → R Bool := fun env m => (ea env m).bind fun v m => match v with
    | .d (.bool true) => .ok true m
    | .d (.bool false) => .ok false m
    | _ => .no
theorem stt_one {ea : EnvT → Mem → R SV} {a : Expr} (ha : STs L X W ea a) : STT L X W (teF ea) [a] := by
  intro av hd σ env H m Q rm re g
  refine wpTs_of (pts_one pt_w) (ha av hd σ env H m _ rm re ?_)
  unfold teF at g
  refine g.bind fun v m1 H1 _ g1 rm1 k1 => ?_
  split at k1
  · exact ⟨true, rfl, k1 H1 .refl rm1⟩
  · exact ⟨false, rfl, k1 H1 .refl rm1⟩
  · exact k1.elim
/-- a uniform reading over a comprehension's blocks -/
abbrev ctx (X : Cx) (scope : Scope) (s : Shared) (H : Hp) (C : Addr) (cl : List (Str × Addr)) (fp : List Addr) : Cx := X.blk s H scope (compEnvC scope cl C X.env) fp
def ugG (X : Cx) (scope : Scope) (tg : Expr) : TG := fun x σ H Q => ∀ s H0 C cl fp, wpG (ctx X scope s H0 C cl fp) tg x σ H Q
def ugE (X : Cx) (scope : Scope) (e : Expr) : TE := fun σ H Q => ∀ s H0 C cl fp, wpE (ctx X scope s H0 C cl fp) e σ H Q
def ugT (X : Cx) (scope : Scope) (ifs : List Expr) : TT := fun σ H Q => ∀ s H0 C cl fp, wpTs (ctx X scope s H0 C cl fp) ifs σ H Q
def ugI (X : Cx) (scope : Scope) (tg iter : Expr) : TI := fun σ H Q => ∀ s H0 C cl fp, wpI (ctx X scope s H0 C cl fp) tg iter σ H Q
theorem ug_g {scope : Scope} {tg : Expr} (s : Shared) (H0 : Hp) (C : Addr) (cl : List (Str × Addr)) (fp : List Addr) : PG (ctx X scope s H0 C cl fp) tg (ugG X scope tg) := ⟨fun pins s1 σ H x u Q I r h => h s H0 C cl fp pins s1 u I r⟩
theorem ug_e {scope : Scope} {e : Expr} (s : Shared) (H0 : Hp) (C : Addr) (cl : List (Str × Addr)) (fp : List Addr) : PE (ctx X scope s H0 C cl fp) e (ugE X scope e) := ⟨fun pins s1 σ H Q I h => h s H0 C cl fp pins s1 I⟩
theorem ug_t {scope : Scope} {e : List Expr} (s : Shared) (H0 : Hp) (C : Addr) (cl : List (Str × Addr)) (fp : List Addr) : PTs (ctx X scope s H0 C cl fp) e (ugT X scope e) := ⟨fun pins s1 σ H Q I h => h s H0 C cl fp pins s1 I⟩
theorem ug_i {scope : Scope} {tg e : Expr} (s : Shared) (H0 : Hp) (C : Addr) (cl : List (Str × Addr)) (fp : List Addr) : PI (ctx X scope s H0 C cl fp) tg e (ugI X scope tg e) := ⟨fun pins s1 σ H Q I h => h s H0 C cl fp pins s1 I⟩
/-- what holds at a turn -/
structure Trn (L : Link) (K : PySem.W.Frag) (av hd : List Addr) (H1 : Hp) (D : Addr) (acc : Ds) (H : Hp) (m : Mem) : Prop where
  gr : Gr av H1 H
  rm : RM L.T K av (D :: hd) H m
  ac : ∃ zs, H D = some (.lst zs) ∧ RpAll K (D :: hd) H zs acc
theorem Trn.at {D : Addr} {acc : Ds} {m2 : Mem} (t : Trn L K av hd H1 D acc H m) (nD : H1 D = none) (nv : D ∉ av) (g : Gr av H H3) (rm : RM L.T K av (D :: hd) H3 m2) : Trn L K av hd H1 D acc H3 m2 := by
  obtain ⟨zs, h1, h2⟩ := t.ac
  exact ⟨t.gr.trans g, rm, zs, g.st _ _ h1 nv noT_lst, h2.le (hide_gr g t.rm.sub)⟩
theorem Trn.yl {D : Addr} {acc : Ds} (t : Trn L K av hd H1 D acc H m) (nD : H1 D = none) (nv : D ∉ av) (h : H3 = H ∨ ∃ a xs, H a = none ∧ H3 = upd H a (.tup xs)) : Trn L K av hd H1 D acc H3 m := by
  rcases h with rfl | ⟨a, xs, n, rfl⟩
  · exact t
  · exact t.at nD nv (Gr.new n) (t.rm.new n)
theorem Trn.app {D : Addr} {acc : Ds} (t : Trn L K av hd H1 D acc H m) (nD : H1 D = none) (nv : D ∉ av) (r : Rp K (D :: hd) H y d) {zs : List V} (h1 : H D = some (.lst zs)) : Trn L K av hd H1 D (acc ++ [d]) (upd H D (.lst (zs ++ [y]))) m := by
  obtain ⟨zs', h2, h3⟩ := t.ac
  rw [h1] at h2; cases h2
  refine ⟨t.gr.own nD, t.rm.own h1 nv, _, upd_same, ?_⟩
  have e : hide (D :: hd) (upd H D (.lst (zs ++ [y]))) = hide (D :: hd) H := hide_upd List.mem_cons_self
  refine ⟨?_, h3.2.app (by simp only [LayAll, ascAll, Bool.and_eq_true]; exact ⟨r.2, trivial⟩)⟩
  rw [e]
  exact h3.1.app (.cons r.1 .nil)
theorem Trn.len {D : Addr} {acc : Ds} {zs : List V} (t : Trn L K av hd H1 D acc H m) (h1 : H D = some (.lst zs)) : zs.length = acc.length := by
  obtain ⟨zs', h2, h3⟩ := t.ac
  rw [h1] at h2; cases h2
  exact h3.1.len
def cmF (ei : EnvT → Mem → R (List SV)) (et : EnvT → Mem → R Bool) (ee : EnvT → Mem → R SV) (tg : Tg) (own : List Nat) : EnvT → Mem → R SV := fun env m => (ei env m).bind fun xs m => if xs.length ≤ LIM then match cLoop tg et ee (wipeE env own) xs [] m with
      | .ok acc m => .ok (.own acc) m
      | _ => .no
    else .no
theorem drop_at {α : Type} {xs : List α} {i : Nat} (h : i < xs.length) : ∃ x, xs[i]? = some x ∧ xs.drop i = x :: xs.drop (i + 1) := ⟨xs[i], List.getElem?_eq_getElem h, List.drop_eq_getElem_cons h⟩
theorem lim_lt {n : Nat} (h : n < LIM + 1) : n < sizeLine := Nat.lt_of_lt_of_le h (by decide)
theorem lc_read {ei : EnvT → Mem → R (List SV)} {et : EnvT → Mem → R Bool} {ee : EnvT → Mem → R SV} {tg : Tg} {own : List Nat} {own' : List (Str × Nat)} {tg' it' elt : Expr} {ifs : List Expr} {scope : Scope}
    (hi : SI L X W true ei tg' it') (ho : own'.map (·.2) = own)
    (hg : ∀ s H0 C cl fp, SG L (ctx X scope s H0 C cl fp) own tg tg') (ht : ∀ s H0 C cl fp, STT L (ctx X scope s H0 C cl fp) W0 et ifs) (he : ∀ s H0 C cl fp, SE L (ctx X scope s H0 C cl fp) W0 ee elt) :
    ∀ (av hd : List Addr) (σ : L2.St) (env : EnvT) (H : Hp) (m : Mem) (Q : VK), RM L.T X.K av hd H m → REn X.K L.fa av hd H σ env →
      Good L X.K av hd H (fun cls d H' => W cls d σ H') (cmF ei et ee tg own env m) (fun v _ H' => ∀ x, RV X.K L.fa av hd H H' x v → Q x H') → tLc (wpI X tg' it') (ugG X scope tg') (ugT X scope ifs) (ugE X scope elt) (own'.map (·.2)) σ H Q := by
  intro av hd σ env H m Q rm re g
  unfold cmF at g
  refine hi av hd σ env H m _ rm re (g.bind fun xs m1 H1 e1 g1 rm1 k1 J yl => ?_)
  rw [ho]
  split at k1
  case isFalse => exact k1.elim
  rename_i hlim
  generalize hl : cLoop tg et ee (wipeE env own) xs [] m1 = r at k1
  cases r with
  | ex c p m2 => exact k1.elim
  | no => exact k1.elim
  | ok accF mF =>
  intro D nD
  have nh := rm1.nw nD
  have nv := rm1.na nD
  refine ⟨fun i n H => n = xs.length - i ∧ i ≤ xs.length ∧ ∃ m acc, cLoop tg et ee (wipeE env own) (xs.drop i) acc m = .ok accF mF ∧ acc.length ≤ i ∧ Trn L X.K av hd H1 D acc H m, ⟨xs.length, rfl, Nat.zero_le _, m1, [], hl, Nat.le_refl _, ⟨Gr.new nD, (rm1.new nD).wd (fun b hb => List.mem_cons_of_mem _ hb) fun b hb => ?_, [], upd_same, .nil, rfl⟩⟩, ?_⟩
  · rcases List.mem_cons.mp hb with rfl | hb
    · rw [upd_same]; exact fun z => nomatch z
    · exact upd_al b (rm1.al b hb)
  rintro i n H ⟨rfl, hi, m, acc, hl, hacc, t⟩
  have le : Le (hide hd H1) (hide (D :: hd) H) := hide_new t.gr rm1.sub nD
  by_cases hlt : i < xs.length
  · obtain ⟨xi, hx, hdr⟩ := drop_at hlt
    rw [hdr] at hl
    unfold cLoop at hl
    cases q : bindT tg xi (wipeE env own) with
    | none => rw [q] at hl; cases hl
    | some e' =>
    rw [q] at hl
    simp only at hl
    refine .inr ⟨yl.go _ _ _ _ le (fun _ => t.gr) hx, fun H' => i + 1 ≤ xs.length ∧ ∃ m acc, cLoop tg et ee (wipeE env own) (xs.drop (i + 1)) acc m = .ok accF mF ∧ acc.length ≤ i + 1 ∧ Trn L X.K av hd H1 D acc H' m, fun H' w => ⟨xs.length - (i + 1), by omega, rfl, w⟩, fun x H' y => ?_⟩
    obtain ⟨yh, yv⟩ := yl.yl _ _ _ _ _ _ le (fun _ => t.gr) t.rm.al hx y
    have t2 := t.yl nD nv yh
    have re2 : REn X.K L.fa av (D :: hd) H' (L2.wipe σ own) (wipeE env own) := ((re.gr g1 rm.sub).new t2.gr rm1.sub nD).wipe own
    intro s H0 C cl fp
    refine hg s H0 C cl fp av (D :: hd) (L2.wipe σ own) (wipeE env own) e' H' H x xi _ t2.rm.sub re2 (yv _) q fun σ2 re3 hσ => ?_
    have hlen : σ2.length = (L2.wipe σ own).length := by rw [← re3.len, bindT_len q, re2.len]
    refine ⟨(wipe_eq hlen hσ).trans (wipe_eq (wipe_length σ own) fun j hj => wipe_out hj), fun s H0 C cl fp => ht s H0 C cl fp av (D :: hd) σ2 e' H' m _ t2.rm re3 ?_⟩
    cases q2 : et e' m with
    | ex c p m2 => rw [q2] at hl; cases hl
    | no => rw [q2] at hl; cases hl
    | ok b m2 =>
    rw [q2] at hl
    intro H3 g3 rm3
    have t3 := t2.at nD nv g3 rm3
    cases b with
    | false =>
      simp only [Bool.false_eq_true, if_false] at hl ⊢
      exact ⟨hlt, m2, acc, hl, by omega, t3⟩
    | true =>
      simp only [if_true] at hl ⊢
      intro s H0 C cl fp
      refine he s H0 C cl fp av (D :: hd) σ2 e' H3 m2 _ rm3 (re3.gr g3 t2.rm.sub) ?_
      cases q3 : ee e' m2 with
      | ex c p m2 => rw [q3] at hl; cases hl
      | no => rw [q3] at hl; cases hl
      | ok w m3 =>
      rw [q3] at hl
      simp only at hl
      cases q4 : toD w with
      | none => rw [q4] at hl; cases hl
      | some dw =>
      rw [q4] at hl
      intro H4 g4 rm4 y ry
      have t4 := t3.at nD nv g4 rm4
      obtain ⟨zs, hz, _⟩ := t4.ac
      have hzl := t4.len hz
      exact ⟨zs, hz, lim_lt (by omega), hlt, m3, _, hl, by simp; omega, t4.app nD nv (rp_toD rm4.sub ry q4) hz⟩
  · have e : i = xs.length := by omega
    subst e
    rw [List.drop_length] at hl
    cases hl
    refine .inl ⟨yl.sp _ _ _ le (fun _ => t.gr) rfl, k1 H t.gr (t.rm.un rm1.sub) (.ref D) ?_⟩
    obtain ⟨zs, hz, hr⟩ := t.ac
    exact ⟨D, zs, rfl, g1.free nD, nh, hz, hr⟩
/-- name = value -/
def SAs (L : Link) (X : Cx) (W : WX) (ev : EnvT → Mem → R SV) (src : Expr) : Prop := ∀ (i : Nat) (z : Str) (p spos : Pos), X.N[i]? = some z → Sto X z → ∀ (av hd : List Addr) (σ : L2.St) (env : EnvT) (H : Hp) (m : Mem) (D : Ends), RM L.T X.K av hd H m → REn X.K L.fa av hd H σ env →
  Good L X.K av hd H (fun cls d H' => W cls d σ H') (ev env m) (fun v _ H' => ∀ x, RV X.K L.fa av hd H H' x v → D.nx (σ.set i (some x)) H') → wpS X (.Assign [.Name z p] src spos) D σ H
theorem sas_of {ea : EnvT → Mem → R SV} {a : Expr} (hN : X.N.Nodup) (hs : ∀ z p l, swapsWith a (some (.Name z p)) l X.env = pure false) (ha : SE L X W ea a) : SAs L X W ea a := by
  intro i z p spos h1 h2 av hd σ env H m D rm re g
  exact wpS_of (ps_set hN h1 h2.1 pe_w (hs z p _) h2.2) (ha av hd σ env H m _ rm re g)
section
variable {ei : EnvT → Mem → R (List SV)} {et : EnvT → Mem → R Bool} {ee : EnvT → Mem → R SV} {tg : Tg} {own : List Nat} {own' : List (Str × Nat)} {tg' it' elt : Expr} {ifs : List Expr} {scope : Scope} {pos : Pos}
theorem se_cm1 (hc : X.calm = true) (hN : X.N.Nodup) (hi : SI L X W true ei tg' it') (ok : BlkOk X.N X.env.scope scope own') (ho : own'.map (·.2) = own) (hf : ∀ x, foldedSetIterable it' X.env x = pure x)
    (hg : ∀ s H0 C cl fp, SG L (ctx X scope s H0 C cl fp) own tg tg') (ht : ∀ s H0 C cl fp, STT L (ctx X scope s H0 C cl fp) W0 et ifs) (he : ∀ s H0 C cl fp, SE L (ctx X scope s H0 C cl fp) W0 ee elt) :
    SE L X W (cmF ei et ee tg own) (.ListComp elt [⟨tg', it', ifs, 0⟩] scope pos) := fun av hd σ env H m Q rm re g =>
  wp_of (pe_lc hc hN pi_w ok ug_g ug_t ug_e hf) (lc_read hi ho hg ht he av hd σ env H m Q rm re g)
/-- does the new list go straight into the name? -/
def strB (env : Env) (scope : Scope) (pos : Pos) (z : Str) (p : Pos) : Bool := decide (env.scope.names.lookup z = some .local) && (p.line == pos.line) && !(scope.names.any fun (n, k) => n == z && (k == .local || k == .cell))
theorem str_yes {gs : List Comprehension} {z : Str} {p : Pos} {l : Nat} {env : Env} (hk : env.scope.kind = .function) (h : strB env scope pos z p = true) : env.scope.names.lookup z = some .local ∧ swapsWith (.ListComp elt gs scope pos) (some (.Name z p)) l env = pure true := by
  unfold strB at h
  simp only [Bool.and_eq_true, decide_eq_true_eq, Bool.not_eq_true'] at h
  obtain ⟨⟨h1, h2⟩, h3⟩ := h
  exact ⟨h1, sw_true hk h1 h2 h3⟩
theorem str_no {gs : List Comprehension} {z : Str} {p : Pos} {l : Nat} {env : Env} (h : strB env scope pos z p = false) : swapsWith (.ListComp elt gs scope pos) (some (.Name z p)) l env = pure false := by
  unfold swapsWith
  show pure (env.blockKind == .function && env.kindOf z == some .local && p.line == (Expr.ListComp elt gs scope pos).pos.line && !(scope.names.any fun (n, k) => n == z && (k == .local || k == .cell))) = pure false
  unfold strB at h
  have e : (env.kindOf z == some NameKind.local) = decide (env.scope.names.lookup z = some .local) := by
    show (env.scope.names.lookup z == some NameKind.local) = _
    by_cases hh : env.scope.names.lookup z = some .local
    · rw [hh]; rfl
    · rw [decide_eq_false hh]
      exact beq_eq_false_iff_ne.mpr hh
  rw [e]
  congr 1
  show (env.blockKind == .function && decide (env.scope.names.lookup z = some .local) && (p.line == pos.line) && !(scope.names.any fun (n, k) => n == z && (k == .local || k == .cell))) = false
  rw [Bool.and_assoc, Bool.and_assoc, ← Bool.and_assoc (decide _), h, Bool.and_false]
theorem sas_cm1 (hc : X.calm = true) (hN : X.N.Nodup) (hk : X.env.scope.kind = .function) (hi : SI L X W true ei tg' it') (ok : BlkOk X.N X.env.scope scope own') (ho : own'.map (·.2) = own) (hf : ∀ x, foldedSetIterable it' X.env x = pure x)
    (hg : ∀ s H0 C cl fp, SG L (ctx X scope s H0 C cl fp) own tg tg') (ht : ∀ s H0 C cl fp, STT L (ctx X scope s H0 C cl fp) W0 et ifs) (he : ∀ s H0 C cl fp, SE L (ctx X scope s H0 C cl fp) W0 ee elt) :
    SAs L X W (cmF ei et ee tg own) (.ListComp elt [⟨tg', it', ifs, 0⟩] scope pos) := by
  intro i z p spos h1 h2 av hd σ env H m D rm re g
  cases hb : strB X.env scope pos z p with
  | true =>
    obtain ⟨h3, h4⟩ := str_yes (elt := elt) (gs := [⟨tg', it', ifs, 0⟩]) (l := spos.line) hk hb
    exact wpS_of (ps_setLc hc hN h1 h3 h4 pi_w ok ug_g ug_t ug_e hf) (lc_read hi ho hg ht he av hd σ env H m _ rm re g)
  | false => exact wpS_of (ps_set hN h1 h2.1 pe_w (str_no hb) h2.2) (se_cm1 hc hN hi ok ho hf hg ht he av hd σ env H m _ rm re g)
end
end
end Tn

set_option maxRecDepth 100000
set_option maxHeartbeats 1000000
/-! Tn18: lists by comprehension: two clauses. -/
namespace Tn
open PySem PySem.Spec PyProof.Rows L2
section
variable {L : Link} {X : Cx} {W : WX} {T : List (Addr × Str)} {K : PySem.W.Frag} {fa : Nat → Option Addr} {av hd hd' : List Addr} {H H0 H1 H' H3 : Hp} {m : Mem} {x y : V} {v : SV} {d e : D} {Q : VK} {pk : Bool} {σ σ2 : L2.St} {env env' : EnvT}
theorem cLoop_len {tg : Tg} {et : EnvT → Mem → R Bool} {ee : EnvT → Mem → R SV} : ∀ {xs : List SV} {acc acc' : Ds} {m m' : Mem}, cLoop tg et ee env xs acc m = .ok acc' m' → acc.length ≤ acc'.length
  | [], acc, acc', m, m', h => by cases h; exact Nat.le_refl _
  | x :: xs, acc, acc', m, m', h => by
    unfold cLoop at h
    split at h
    · cases h
    · split at h
      · split at h
        · split at h
          · have := cLoop_len h
            rw [List.length_append] at this
            simp at this; omega
          · cases h
        · cases h
      · exact cLoop_len h
      · cases h
theorem cLoop2_len {tg tg2 : Tg} {own2 : List Nat} {e2 : EnvT → Mem → R (List SV)} {et : EnvT → Mem → R Bool} {ee : EnvT → Mem → R SV} : ∀ {xs : List SV} {acc acc' : Ds} {m m' : Mem}, cLoop2 tg own2 e2 tg2 et ee env xs acc m = .ok acc' m' → acc.length ≤ acc'.length
  | [], acc, acc', m, m', h => by cases h; exact Nat.le_refl _
  | x :: xs, acc, acc', m, m', h => by
    unfold cLoop2 at h
    split at h
    · cases h
    · split at h
      · split at h
        · rename_i h2
          exact Nat.le_trans (cLoop_len h2) (cLoop2_len h)
        · cases h
      · cases h
theorem set_own {i j : Nat} {w : SV} (hw : ∀ ds, w ≠ .own ds) {ds : Ds} (h : (env.set i (some w))[j]? = some (some (.own ds))) : env[j]? = some (some (.own ds)) := by
  by_cases e : i = j
  · subst e
    by_cases hl : i < env.length
    · rw [List.getElem?_set_self hl] at h
      cases h
      exact absurd rfl (hw ds)
    · rw [List.getElem?_eq_none (by simpa using hl)] at h; cases h
  · rw [List.getElem?_set_ne e] at h; exact h
theorem setF_own : ∀ {l : List (Nat × D)} {env : EnvT} {j : Nat} {ds : Ds}, (l.foldl (fun e p => e.set p.1 (some (SV.d p.2))) env)[j]? = some (some (.own ds)) → env[j]? = some (some (.own ds))
  | [], _, _, _, h => h
  | p :: r, env, j, ds, h => by
    rw [List.foldl_cons] at h
    exact set_own (fun _ z => SV.noConfusion z) (setF_own h)
theorem bindT_own {tg : Tg} {i : Nat} {ds : Ds} (h : bindT tg v env = some env') (e : env'[i]? = some (some (.own ds))) : env[i]? = some (some (.own ds)) := by
  unfold bindT at h
  split at h
  · split at h
    · cases h; exact set_own (fun _ z => SV.noConfusion z) e
    · cases h
  · split at h
    · cases h; exact set_own (fun _ z => SV.noConfusion z) e
    · cases h
  · split at h
    · cases h; exact setF_own e
    · cases h
  · cases h
def cm2F (ei : EnvT → Mem → R (List SV)) (ei2 : EnvT → Mem → R (List SV)) (et : EnvT → Mem → R Bool) (ee : EnvT → Mem → R SV) (tg tg2 : Tg) (own own2 : List Nat) : EnvT → Mem → R SV := fun env m => (ei env m).bind fun xs m => match cLoop2 tg own2 ei2 tg2 et ee (wipeE env own) xs [] m with
      | .ok acc m => if acc.length ≤ LIM then .ok (.own acc) m else .no
      | _ => .no
theorem lc2_read {ei ei2 : EnvT → Mem → R (List SV)} {et : EnvT → Mem → R Bool} {ee : EnvT → Mem → R SV} {tg tg2 : Tg} {own own2 : List Nat} {own' : List (Str × Nat)} {tg' it' tg2' it2' elt : Expr} {ifs : List Expr} {scope : Scope}
    (hi : SI L X W true ei tg' it') (ho : own'.map (·.2) = own)
    (hg : ∀ s H0 C cl fp, SG L (ctx X scope s H0 C cl fp) own tg tg') (hi2 : ∀ s H0 C cl fp, SI2 L (ctx X scope s H0 C cl fp) W0 ei2 tg2' it2') (hg2 : ∀ s H0 C cl fp, SG L (ctx X scope s H0 C cl fp) own2 tg2 tg2') (ht : ∀ s H0 C cl fp, STT L (ctx X scope s H0 C cl fp) W0 et ifs) (he : ∀ s H0 C cl fp, SE L (ctx X scope s H0 C cl fp) W0 ee elt) :
    ∀ (av hd : List Addr) (σ : L2.St) (env : EnvT) (H : Hp) (m : Mem) (Q : VK), RM L.T X.K av hd H m → REn X.K L.fa av hd H σ env →
      Good L X.K av hd H (fun cls d H' => W cls d σ H') (cm2F ei ei2 et ee tg tg2 own own2 env m) (fun v _ H' => ∀ x, RV X.K L.fa av hd H H' x v → Q x H') →
      tLc2 (wpI X tg' it') (ugG X scope tg') (ugT X scope []) (ugI X scope tg2' it2') (ugG X scope tg2') (ugT X scope ifs) (ugE X scope elt) (own'.map (·.2)) own2 σ H Q := by
  intro av hd σ env H m Q rm re g
  unfold cm2F at g
  refine hi av hd σ env H m _ rm re (g.bind fun xs m1 H1 e1 g1 rm1 k1 J yl => ?_)
  rw [ho]
  generalize hl : cLoop2 tg own2 ei2 tg2 et ee (wipeE env own) xs [] m1 = r at k1
  cases r with
  | ex c p m2 => exact k1.elim
  | no => exact k1.elim
  | ok accF mF =>
  simp only at k1
  split at k1
  case isFalse => exact k1.elim
  rename_i hlim
  intro D nD
  have nh := rm1.nw nD
  have nv := rm1.na nD
  refine ⟨fun i n H => n = xs.length - i ∧ i ≤ xs.length ∧ ∃ m acc, cLoop2 tg own2 ei2 tg2 et ee (wipeE env own) (xs.drop i) acc m = .ok accF mF ∧ Trn L X.K av hd H1 D acc H m, ⟨xs.length, rfl, Nat.zero_le _, m1, [], hl, ⟨Gr.new nD, (rm1.new nD).wd (fun b hb => List.mem_cons_of_mem _ hb) fun b hb => ?_, [], upd_same, .nil, rfl⟩⟩, ?_⟩
  · rcases List.mem_cons.mp hb with rfl | hb
    · rw [upd_same]; exact fun z => nomatch z
    · exact upd_al b (rm1.al b hb)
  rintro i n H ⟨rfl, hi, m, acc, hl, t⟩
  have le : Le (hide hd H1) (hide (D :: hd) H) := hide_new t.gr rm1.sub nD
  by_cases hlt : i < xs.length
  · obtain ⟨xi, hx, hdr⟩ := drop_at hlt
    rw [hdr] at hl
    unfold cLoop2 at hl
    cases q0 : bindT tg xi (wipeE env own) with
    | none => rw [q0] at hl; cases hl
    | some e' =>
    rw [q0] at hl
    simp only at hl
    refine .inr ⟨yl.go _ _ _ _ le (fun _ => t.gr) hx, fun H' => i + 1 ≤ xs.length ∧ ∃ m acc, cLoop2 tg own2 ei2 tg2 et ee (wipeE env own) (xs.drop (i + 1)) acc m = .ok accF mF ∧ Trn L X.K av hd H1 D acc H' m, fun H' w => ⟨xs.length - (i + 1), by omega, rfl, w⟩, fun x H' y => ?_⟩
    obtain ⟨yh, yv⟩ := yl.yl _ _ _ _ _ _ le (fun _ => t.gr) t.rm.al hx y
    have t2 := t.yl nD nv yh
    have re2 : REn X.K L.fa av (D :: hd) H' (L2.wipe σ own) (wipeE env own) := ((re.gr g1 rm.sub).new t2.gr rm1.sub nD).wipe own
    intro s H0 C cl fp
    refine hg s H0 C cl fp av (D :: hd) (L2.wipe σ own) (wipeE env own) e' H' H x xi _ t2.rm.sub re2 (yv _) q0 fun σ2 re3 hσ => ?_
    have hlen : σ2.length = (L2.wipe σ own).length := by rw [← re3.len, bindT_len q0, re2.len]
    refine ⟨(wipe_eq hlen hσ).trans (wipe_eq (wipe_length σ own) fun j hj => wipe_out hj), fun s H0 C cl fp => wpTs_of (t := tYes) pts_nil ?_⟩
    simp only [tYes, if_true]
    intro s H0 C cl fp
    have hZ : ∀ (i : Nat) (ds : Ds) (a : Addr), e'[i]? = some (some (SV.own ds)) → σ2[i]? = some (some (V.ref a)) → a ∈ hd := fun i ds a e1 e2 => by
      have e0 := bindT_own q0 e1
      obtain ⟨e3, e4⟩ := wipeE_some e0
      have h5 := hσ i e4
      rw [wipe_out e4, e2] at h5
      obtain ⟨x', h6, h7⟩ := (re.gr g1 rm.sub).sl i _ e3
      rw [← h5] at h6
      cases h6
      obtain ⟨b, zs, e, h8, _⟩ := h7
      cases e
      exact h8
    refine hi2 s H0 C cl fp av (D :: hd) hd σ2 e' H' m _ t2.rm re3 hZ ?_
    cases q2 : ei2 e' m with
    | ex c p m2 => rw [q2] at hl; cases hl
    | no => rw [q2] at hl; cases hl
    | ok ys m2 =>
    rw [q2] at hl
    simp only at hl
    generalize hl2 : cLoop tg2 et ee (wipeE e' own2) ys acc m2 = r2 at hl
    cases r2 with
    | ex c p m2 => cases hl
    | no => cases hl
    | ok acc2 m3 =>
    simp only at hl
    have hmono := cLoop2_len hl
    intro H4 g4 rm4 J1 yl1
    have t4 := t2.at nD nv g4 rm4
    refine ⟨fun j n H => n = ys.length - j ∧ j ≤ ys.length ∧ ∃ m acc, cLoop tg2 et ee (wipeE e' own2) (ys.drop j) acc m = .ok acc2 m3 ∧ Trn L X.K av hd H1 D acc H m ∧ Le (hide (D :: hd) H4) (hide (D :: hd) H) ∧ (∀ a ∈ hd, a ∉ av → ∀ xs, H4 a = some (.lst xs) → H a = some (.lst xs)), ⟨ys.length, rfl, Nat.zero_le _, m2, acc, hl2, t4, .refl, fun _ _ _ _ h => h⟩, ?_⟩
    rintro j n H ⟨rfl, hj, m, acc, hl2, t, le, zz⟩
    by_cases hlt2 : j < ys.length
    · obtain ⟨yj, hy, hdr⟩ := drop_at hlt2
      rw [hdr] at hl2
      unfold cLoop at hl2
      cases q : bindT tg2 yj (wipeE e' own2) with
      | none => rw [q] at hl2; cases hl2
      | some e2 =>
      rw [q] at hl2
      simp only at hl2
      refine .inr ⟨yl1.go _ _ _ _ le zz hy, fun H' => j + 1 ≤ ys.length ∧ ∃ m acc, cLoop tg2 et ee (wipeE e' own2) (ys.drop (j + 1)) acc m = .ok acc2 m3 ∧ Trn L X.K av hd H1 D acc H' m ∧ Le (hide (D :: hd) H4) (hide (D :: hd) H') ∧ (∀ a ∈ hd, a ∉ av → ∀ xs, H4 a = some (.lst xs) → H' a = some (.lst xs)), fun H' w => ⟨ys.length - (j + 1), by omega, rfl, w⟩, fun x H' y => ?_⟩
      obtain ⟨yh, yv⟩ := yl1.yl _ _ _ _ _ _ le zz t.rm.al hy y
      have gy : Gr av H H' := by
        rcases yh with rfl | ⟨a, xs, n, rfl⟩
        · exact .refl
        · exact Gr.new n
      have t5 := t.yl nD nv yh
      have le5 := le.trans (hide_gr gy t.rm.sub)
      have zz5 : ∀ a ∈ hd, a ∉ av → ∀ xs, H4 a = some (.lst xs) → H' a = some (.lst xs) := fun a h1 h2 xs h3 => gy.st _ _ (zz a h1 h2 xs h3) h2 noT_lst
      have re5 : REn X.K L.fa av (D :: hd) H' (L2.wipe σ2 own2) (wipeE e' own2) := by
        have re4 := re3.gr g4 t2.rm.sub
        have rb : REn X.K L.fa av (D :: hd) H' (L2.wipe σ own) (wipeE env own) := ((re.gr g1 rm.sub).new t5.gr rm1.sub nD).wipe own
        refine REn.wipe ?_ own2
        exact ⟨re4.len, fun i v e => by
          obtain ⟨x, h1, h2⟩ := re4.sl i v e
          refine ⟨x, h1, ?_⟩
          cases v with
          | own ds =>
            have e0 := bindT_own q0 e
            obtain ⟨x', h3, h4⟩ := rb.sl i _ e0
            have h5 := hσ i (wipeE_some e0).2
            rw [h1, h3] at h5
            cases h5
            exact h4
          | p ds => exact h2
          | d y => exact Rp.le h2 le5
          | h k => exact h2
          | f n => exact h2
          | s ns =>
            obtain ⟨b, rfl, q⟩ := h2
            exact ⟨b, rfl, sqL_le le5 q⟩⟩
      intro s H0 C cl fp
      refine hg2 s H0 C cl fp av (D :: hd) (L2.wipe σ2 own2) (wipeE e' own2) e2 H' H x yj _ t5.rm.sub re5 (yv _) q fun σ3 re6 hσ3 => ?_
      have hlen3 : σ3.length = (L2.wipe σ2 own2).length := by rw [← re6.len, bindT_len q, re5.len]
      refine ⟨(wipe_eq hlen3 hσ3).trans (wipe_eq (wipe_length σ2 own2) fun j hj => wipe_out hj), fun s H0 C cl fp => ht s H0 C cl fp av (D :: hd) σ3 e2 H' m _ t5.rm re6 ?_⟩
      cases q2 : et e2 m with
      | ex c p m2 => rw [q2] at hl2; cases hl2
      | no => rw [q2] at hl2; cases hl2
      | ok b m6 =>
      rw [q2] at hl2
      intro H6 g6 rm6
      have t6 := t5.at nD nv g6 rm6
      have le6 := le5.trans (hide_gr g6 t5.rm.sub)
      have zz6 : ∀ a ∈ hd, a ∉ av → ∀ xs, H4 a = some (.lst xs) → H6 a = some (.lst xs) := fun a h1 h2 xs h3 => g6.st _ _ (zz5 a h1 h2 xs h3) h2 noT_lst
      cases b with
      | false =>
        simp only [Bool.false_eq_true, if_false] at hl2 ⊢
        exact ⟨hlt2, m6, acc, hl2, t6, le6, zz6⟩
      | true =>
        simp only [if_true] at hl2 ⊢
        intro s H0 C cl fp
        refine he s H0 C cl fp av (D :: hd) σ3 e2 H6 m6 _ rm6 (re6.gr g6 t5.rm.sub) ?_
        cases q3 : ee e2 m6 with
        | ex c p m2 => rw [q3] at hl2; cases hl2
        | no => rw [q3] at hl2; cases hl2
        | ok w m7 =>
        rw [q3] at hl2
        simp only at hl2
        cases q4 : toD w with
        | none => rw [q4] at hl2; cases hl2
        | some dw =>
        rw [q4] at hl2
        intro H7 g7 rm7 y ry
        have t7 := t6.at nD nv g7 rm7
        obtain ⟨zs, hz, _⟩ := t7.ac
        have hzl := t7.len hz
        have hm2 := cLoop_len hl2
        rw [List.length_append] at hm2
        simp only [List.length_cons, List.length_nil] at hm2
        refine ⟨zs, hz, lim_lt (by omega), hlt2, m7, _, hl2, t7.app nD nv (rp_toD rm7.sub ry q4) hz, ?_, fun a h1 h2 xs h3 => by
          have hne : a ≠ D := fun z => nh (by rw [← z]; exact h1)
          rw [upd_ne hne]
          exact g7.st _ _ (zz6 a h1 h2 xs h3) h2 noT_lst⟩
        have e : hide (D :: hd) (upd H7 D (.lst (zs ++ [y]))) = hide (D :: hd) H7 := hide_upd List.mem_cons_self
        rw [e]
        exact le6.trans (hide_gr g7 rm6.sub)
    · have e : j = ys.length := by omega
      subst e
      rw [List.drop_length] at hl2
      cases hl2
      exact .inl ⟨yl1.sp _ _ _ le zz rfl, hlt, m3, _, hl, t⟩
  · have e : i = xs.length := by omega
    subst e
    rw [List.drop_length] at hl
    cases hl
    refine .inl ⟨yl.sp _ _ _ le (fun _ => t.gr) rfl, k1 H t.gr (t.rm.un rm1.sub) (.ref D) ?_⟩
    obtain ⟨zs, hz, hr⟩ := t.ac
    exact ⟨D, zs, rfl, g1.free nD, nh, hz, hr⟩
section
variable {ei ei2 : EnvT → Mem → R (List SV)} {et : EnvT → Mem → R Bool} {ee : EnvT → Mem → R SV} {tg tg2 : Tg} {own own2 : List Nat} {own' : List (Str × Nat)} {tg' it' tg2' it2' elt : Expr} {ifs : List Expr} {scope : Scope} {pos : Pos}
theorem se_cm2 (hc : X.calm = true) (hN : X.N.Nodup) (hi : SI L X W true ei tg' it') (ok : BlkOk X.N X.env.scope scope own') (ho : own'.map (·.2) = own) (hv : ∀ i ∈ own2, i ∈ own) (hf : ∀ x, foldedSetIterable it' X.env x = pure x) (hf2 : ∀ env x, foldedSetIterable it2' env x = pure x)
    (hg : ∀ s H0 C cl fp, SG L (ctx X scope s H0 C cl fp) own tg tg') (hi2 : ∀ s H0 C cl fp, SI2 L (ctx X scope s H0 C cl fp) W0 ei2 tg2' it2') (hg2 : ∀ s H0 C cl fp, SG L (ctx X scope s H0 C cl fp) own2 tg2 tg2') (ht : ∀ s H0 C cl fp, STT L (ctx X scope s H0 C cl fp) W0 et ifs) (he : ∀ s H0 C cl fp, SE L (ctx X scope s H0 C cl fp) W0 ee elt) :
    SE L X W (cm2F ei ei2 et ee tg tg2 own own2) (.ListComp elt [⟨tg', it', [], 0⟩, ⟨tg2', it2', ifs, 0⟩] scope pos) := fun av hd σ env H m Q rm re g =>
  wp_of (pe_lc2 hc hN pi_w ok (by rw [ho]; exact hv) ug_g ug_t ug_i ug_g ug_t ug_e hf hf2) (lc2_read hi ho hg hi2 hg2 ht he av hd σ env H m Q rm re g)
theorem sas_cm2 (hc : X.calm = true) (hN : X.N.Nodup) (hk : X.env.scope.kind = .function) (hi : SI L X W true ei tg' it') (ok : BlkOk X.N X.env.scope scope own') (ho : own'.map (·.2) = own) (hv : ∀ i ∈ own2, i ∈ own) (hf : ∀ x, foldedSetIterable it' X.env x = pure x) (hf2 : ∀ env x, foldedSetIterable it2' env x = pure x)
    (hg : ∀ s H0 C cl fp, SG L (ctx X scope s H0 C cl fp) own tg tg') (hi2 : ∀ s H0 C cl fp, SI2 L (ctx X scope s H0 C cl fp) W0 ei2 tg2' it2') (hg2 : ∀ s H0 C cl fp, SG L (ctx X scope s H0 C cl fp) own2 tg2 tg2') (ht : ∀ s H0 C cl fp, STT L (ctx X scope s H0 C cl fp) W0 et ifs) (he : ∀ s H0 C cl fp, SE L (ctx X scope s H0 C cl fp) W0 ee elt) :
    SAs L X W (cm2F ei ei2 et ee tg tg2 own own2) (.ListComp elt [⟨tg', it', [], 0⟩, ⟨tg2', it2', ifs, 0⟩] scope pos) := by
  intro i z p spos h1 h2 av hd σ env H m D rm re g
  cases hb : strB X.env scope pos z p with
  | true =>
    obtain ⟨h3, h4⟩ := str_yes (elt := elt) (gs := [⟨tg', it', [], 0⟩, ⟨tg2', it2', ifs, 0⟩]) (l := spos.line) hk hb
    exact wpS_of (ps_setLc2 hc hN h1 h3 h4 pi_w ok (by rw [ho]; exact hv) ug_g ug_t ug_i ug_g ug_t ug_e hf hf2) (lc2_read hi ho hg hi2 hg2 ht he av hd σ env H m _ rm re g)
  | false => exact wpS_of (ps_set hN h1 h2.1 pe_w (str_no hb) h2.2) (se_cm2 hc hN hi ok ho hv hf hf2 hg hi2 hg2 ht he av hd σ env H m _ rm re g)
end
end
end Tn

set_option maxRecDepth 100000
set_option maxHeartbeats 1000000
/-! Tn19: what holds between statements. -/
namespace Tn
open PySem PySem.Spec PyProof.Rows L2
/-- between two statements of a body that was entered with av0, hd0 at H0 -/
structure BI (L : Link) (K : PySem.W.Frag) (av0 hd0 : List Addr) (H0 : Hp) (av hd : List Addr) (σ : L2.St) (env : EnvT) (H : Hp) (m : Mem) : Prop where
  rm : RM L.T K av hd H m
  re : REn K L.fa av hd H σ env
  ex : ∃ nw, av = av0 ++ nw ∧ ∀ b ∈ nw, H0 b = none
  hs : ∀ b ∈ hd0, b ∈ hd
  hn : ∀ b ∈ hd, b ∉ hd0 → H0 b = none
  gr : Gr av0 H0 H
  ds : ∀ (i j : Nat) (x y : Ds) (a : Addr), env[i]? = some (some (SV.own x)) → env[j]? = some (some (SV.own y)) → σ[i]? = some (some (V.ref a)) → σ[j]? = some (some (V.ref a)) → i = j
  nh : ∀ (i : Nat) (x : Ds) (a : Addr), env[i]? = some (some (SV.own x)) → σ[i]? = some (some (V.ref a)) → a ∉ hd0
/-- what a body is to come to -/
def Post (L : Link) (K : PySem.W.Frag) (av0 hd0 : List Addr) (H0 : Hp) (hd : List Addr) (H : Hp) (D : Ends) (E : XK) (o : O) : Prop := match o with
  | .nx env m => ∀ av' hd' σ' H', BI L K av0 hd0 H0 av' hd' σ' env H' m → Le (hide hd H) (hide hd' H') → D.nx σ' H'
  | .rt v m => ∀ x H', Gr av0 H0 H' → RM L.T K av0 hd0 H' (m.take av0.length) → RV K L.fa av0 hd0 H0 H' x v → D.rt x H'
  | .ex c p m => ∀ H' d, Gr av0 H0 H' → RM L.T K av0 hd0 H' (m.take av0.length) → XP L c p d H' → E (.ref (L.ca c)) d H'
  | .no => False
section
variable {L : Link} {K : PySem.W.Frag} {av0 hd0 av hd hd' : List Addr} {H0 H H1 : Hp} {σ : L2.St} {env : EnvT} {m m1 : Mem} {D : Ends} {E : XK} {o : O} {x : V} {v : SV}
theorem Post.at (le : Le (hide hd H) (hide hd' H1)) (p : Post L K av0 hd0 H0 hd H D E o) : Post L K av0 hd0 H0 hd' H1 D E o := by
  cases o with
  | nx env m => exact fun av' hd' σ' H' b l => p av' hd' σ' H' b (le.trans l)
  | rt v m => exact p
  | ex c q m => exact p
  | no => exact p
theorem RM.cut (rm : RM L.T K av hd H m) (ex : ∃ nw, av = av0 ++ nw ∧ ∀ b ∈ nw, H0 b = none) (s : ∀ b ∈ av0, b ∈ hd0) (hs : ∀ b ∈ hd0, b ∈ hd) : RM L.T K av0 hd0 H (m.take av0.length) := by
  obtain ⟨nw, e, _⟩ := ex
  have hl : av0.length ≤ m.length := by rw [← rm.len, e, List.length_append]; omega
  refine ⟨by rw [List.length_take]; omega, ?_, s, fun k a o h1 h2 => ?_, rm.tab, fun b hb => rm.al b (hs b hb)⟩
  · have := rm.nd; rw [e] at this; exact (List.nodup_append.mp this).1
  · have hk : k < av0.length := (List.getElem?_eq_some_iff.mp h1).1
    rw [List.getElem?_take_of_lt hk] at h2
    have h1' : av[k]? = some a := by rw [e, List.getElem?_append_left hk]; exact h1
    have q := rm.mo k a o h1' h2
    cases o with
    | nums ns => exact q
theorem BI.sub0 (b : BI L K av0 hd0 H0 av hd σ env H m) (s0 : ∀ b ∈ av0, H0 b ≠ none) : ∀ a ∈ av0, a ∈ hd0 := fun a ha => by
  obtain ⟨nw, e, hn⟩ := b.ex
  have h1 : a ∈ hd := b.rm.sub a (by rw [e]; exact List.mem_append_left _ ha)
  exact Classical.byContradiction fun z => s0 a ha (b.hn a h1 z)
/-- a step that only writes at the store and lays new things -/
theorem Gr.ext (ex : ∃ nw, av = av0 ++ nw ∧ ∀ b ∈ nw, H0 b = none) (g0 : Gr av0 H0 H) (g : Gr av H H1) : Gr av0 H0 H1 := by
  obtain ⟨nw, e, hn⟩ := ex
  refine ⟨fun b o h n t => g.st b o (g0.st b o h n t) (fun z => ?_) t, fun b h => g.al b (g0.al b h)⟩
  rw [e] at z
  rcases List.mem_append.mp z with z | z
  · exact n z
  · rw [hn b z] at h; cases h
theorem BI.go (b : BI L K av0 hd0 H0 av hd σ env H m) (g : Gr av H H1) (rm : RM L.T K av hd H1 m1) : BI L K av0 hd0 H0 av hd σ env H1 m1 :=
  ⟨rm, b.re.gr g b.rm.sub, b.ex, b.hs, b.hn, Gr.ext b.ex b.gr g, b.ds, b.nh⟩
theorem Post.of {α : Type} {r : R α} {k : α → Mem → O} (b : BI L K av0 hd0 H0 av hd σ env H m) (s0 : ∀ b ∈ av0, b ∈ hd0) (p : Post L K av0 hd0 H0 hd H D E (O.of r k)) :
    Good L K av hd H (fun cls d H' => E cls d H') r (fun v m1 H1 => BI L K av0 hd0 H0 av hd σ env H1 m1 ∧ Gr av H H1 ∧ Post L K av0 hd0 H0 hd H D E (k v m1)) := by
  cases r with
  | ok v m1 => exact fun H1 g rm => ⟨b.go g rm, g, p⟩
  | ex c q m1 => exact fun H1 d g rm xp => p H1 d (Gr.ext b.ex b.gr g) (rm.cut b.ex s0 b.hs) xp
  | no => exact p
/-- a value that is given back -/
theorem RV.out (b : BI L K av0 hd0 H0 av hd σ env H m) (g : Gr av H H1) (rm : RM L.T K av hd H1 m1) (h : RV K L.fa av hd H H1 x v) (hv : ∀ ds, v ≠ .p ds) (hh : ∀ k, v ≠ .h k) : RV K L.fa av0 hd0 H0 H1 x v := by
  have g2 := Gr.ext b.ex b.gr g
  cases v with
  | d y => exact Rp.le h (hide_sub b.hs)
  | own ds =>
    obtain ⟨a, xs, rfl, n, nh, e, r⟩ := h
    refine ⟨a, xs, rfl, b.gr.free n, fun z => nh (b.hs a z), e, r.le (hide_sub fun c hc => ?_)⟩
    rcases List.mem_cons.mp hc with rfl | hc
    · exact List.mem_cons_self
    · exact List.mem_cons_of_mem _ (b.hs c hc)
  | p ds => exact absurd rfl (hv ds)
  | h k => exact absurd rfl (hh k)
  | f n => exact h
  | s ns =>
    obtain ⟨a, rfl, h⟩ := h
    exact ⟨a, rfl, sqL_le (hide_sub b.hs) h⟩
end
/-- a statement, a block -/
def SS (L : Link) (X : Cx) (E : XK) (ev : EnvT → Mem → O) (src : Stmt) : Prop := ∀ (av0 hd0 : List Addr) (H0 : Hp) (av hd : List Addr) (σ : L2.St) (env : EnvT) (H : Hp) (m : Mem) (D : Ends), (∀ b ∈ av0, b ∈ hd0) → BI L X.K av0 hd0 H0 av hd σ env H m →
  Post L X.K av0 hd0 H0 hd H D E (ev env m) → wpS X src D σ H
def SB (L : Link) (X : Cx) (E : XK) (ev : EnvT → Mem → O) (src : List Stmt) : Prop := ∀ (av0 hd0 : List Addr) (H0 : Hp) (av hd : List Addr) (σ : L2.St) (env : EnvT) (H : Hp) (m : Mem) (D : Ends), (∀ b ∈ av0, b ∈ hd0) → BI L X.K av0 hd0 H0 av hd σ env H m →
  Post L X.K av0 hd0 H0 hd H D E (ev env m) → wpB X src D σ H
structure Sok (L : Link) (G : Glob) (c : Nat → List SV → Mem → R SV) (k : Nat) (X : Cx) (E : XK) : Prop where
  ck : Cok L G c k (L.ls X.env.scope.names) X (fun cls d _ H => E cls d H)
  po : PassesOwn (model X.prog X.w) X.A X.env X.xe
  fnc : ∀ z, X.env.scope.names.lookup z = some .cell → X.fn z = true
  kind : X.env.scope.kind = .function
section
variable {L : Link} {X : Cx} {E : XK} {av0 hd0 av hd hd' : List Addr} {H0 H H1 : Hp} {σ : L2.St} {env : EnvT} {m m1 : Mem} {D : Ends} {o : O} {x : V} {v : SV}
theorem sb_nil : SB L X E (fun env m => .nx env m) [] := fun av0 hd0 H0 av hd σ env H m D s0 b p => wpB_of pss_nil (p av hd σ H b .refl)
theorem sb_cons {e1 e2 : EnvT → Mem → O} {st : Stmt} {rest : List Stmt} (h1 : SS L X E e1 st) (h2 : SB L X E e2 rest) : SB L X E (fun env m => (e1 env m).seq e2) (st :: rest) := by
  intro av0 hd0 H0 av hd σ env H m D s0 b p
  refine wpB_of (pss_cons ps_w pss_w) (h1 av0 hd0 H0 av hd σ env H m _ s0 b ?_)
  replace p : Post L X.K av0 hd0 H0 hd H D E ((e1 env m).seq e2) := p
  cases q : e1 env m with
  | nx env1 m1 =>
    rw [q] at p
    exact fun av' hd' σ' H' b' le => h2 av0 hd0 H0 av' hd' σ' env1 H' m1 D s0 b' (Post.at le p)
  | rt v m1 => rw [q] at p; exact p
  | ex c pp m1 => rw [q] at p; exact p
  | no => rw [q] at p; exact p
theorem ss_exp {ea : EnvT → Mem → R SV} {a : Expr} {pos : Pos} (hs : swapsWith a none pos.line X.env = pure false) (ha : SE L X (fun cls d _ H => E cls d H) ea a) : SS L X E (fun env m => .of (ea env m) fun _ m => .nx env m) (.Expr a pos) := by
  intro av0 hd0 H0 av hd σ env H m D s0 b p
  exact wpS_of (ps_expr pe_w hs) (ha av hd σ env H m _ b.rm b.re ((Post.of b s0 p).imp fun v m1 H1 _ _ _ q x _ => q.2.2 av hd σ H1 q.1 (hide_gr q.2.1 b.rm.sub)))
theorem ss_retN {pos : Pos} : SS L X E (fun _ m => .rt (.d .none) m) (.Return none pos) := by
  intro av0 hd0 H0 av hd σ env H m D s0 b p
  exact wpS_of ps_retN (p .non H b.gr (b.rm.cut b.ex s0 b.hs) rp_non)
def rtF (ea : EnvT → Mem → R SV) : EnvT → Mem → O := fun env m => .of (ea env m) fun v m => match v with
      | .p _ => .no
      | .h _ => .no
      | _ => .rt v m
theorem ss_ret {ea : EnvT → Mem → R SV} {a : Expr} {pos : Pos} (ha : SE L X (fun cls d _ H => E cls d H) ea a) : SS L X E (rtF ea) (.Return (some a) pos) := by
  intro av0 hd0 H0 av hd σ env H m D s0 b p
  refine wpS_of (ps_ret pe_w) (ha av hd σ env H m _ b.rm b.re ((Post.of b s0 p).imp fun v m1 H1 _ _ rm1 q x rx => ?_))
  obtain ⟨b1, g1, q⟩ := q
  cases v with
  | p ds => exact q.elim
  | h k => exact q.elim
  | d y => exact q x H1 b1.gr (rm1.cut b.ex s0 b.hs) (RV.out b g1 rm1 rx (fun _ => SV.noConfusion) fun _ => SV.noConfusion)
  | own ds => exact q x H1 b1.gr (rm1.cut b.ex s0 b.hs) (RV.out b g1 rm1 rx (fun _ => SV.noConfusion) fun _ => SV.noConfusion)
  | f n => exact q x H1 b1.gr (rm1.cut b.ex s0 b.hs) (RV.out b g1 rm1 rx (fun _ => SV.noConfusion) fun _ => SV.noConfusion)
  | s ns => exact q x H1 b1.gr (rm1.cut b.ex s0 b.hs) (RV.out b g1 rm1 rx (fun _ => SV.noConfusion) fun _ => SV.noConfusion)
/-- return name -/
def rvF (i : Nat) : EnvT → Mem → O := fun env m => match env[i]? with
      | some (some (SV.own ds)) => .rt (.own ds) m
      | some (some (.h _)) => .no
      | some (some v) => .rt v m
      | _ => .no
theorem ss_retv {i : Nat} {z : Str} {p pos : Pos} (hv : visB X.N X.env.scope i z = true) : SS L X E (rvF i) (.Return (some (.Name z p)) pos) := by
  intro av0 hd0 H0 av hd σ env H m D s0 b q
  obtain ⟨h1, h2, h3, h4⟩ := vis_of hv
  refine wpS_of (ps_ret (pe_var h1 h2 h3 h4)) ?_
  unfold rvF at q
  cases e : env[i]? with
  | none => rw [e] at q; exact q.elim
  | some o =>
    cases o with
    | none => rw [e] at q; exact q.elim
    | some v =>
      obtain ⟨x, e1, e2⟩ := b.re.sl i v e
      refine ⟨x, e1, ?_⟩
      rw [e] at q
      cases v with
      | own ds =>
        obtain ⟨a, xs, rfl, h1, h2, h3, h4⟩ := e2
        have nh := b.nh i ds a e e1
        refine q _ H b.gr (b.rm.cut b.ex s0 b.hs) ⟨a, xs, rfl, b.hn a h1 nh, nh, h3, h4.le (hide_sub fun c hc => ?_)⟩
        rcases List.mem_cons.mp hc with rfl | hc
        · exact h1
        · exact b.hs c hc
      | p ds => exact e2.elim
      | h k => exact q.elim
      | d y => exact q x H b.gr (b.rm.cut b.ex s0 b.hs) (RV.out b .refl b.rm e2 (fun _ => SV.noConfusion) fun _ => SV.noConfusion)
      | f n => exact q x H b.gr (b.rm.cut b.ex s0 b.hs) (RV.out b .refl b.rm e2 (fun _ => SV.noConfusion) fun _ => SV.noConfusion)
      | s ns => exact q x H b.gr (b.rm.cut b.ex s0 b.hs) (RV.out b .refl b.rm e2 (fun _ => SV.noConfusion) fun _ => SV.noConfusion)
def ifF (et : EnvT → Mem → R SV) (ea eb : EnvT → Mem → O) : EnvT → Mem → O := fun env m => .of (et env m) fun v m => match v with
    | .d (.bool true) => ea env m
    | .d (.bool false) => eb env m
    | _ => .no
theorem ss_if {et : EnvT → Mem → R SV} {ea eb : EnvT → Mem → O} {t : Expr} {a b : List Stmt} {pos : Pos} (ht : STs L X (fun cls d _ H => E cls d H) et t) (ha : SB L X E ea a) (hb : SB L X E eb b) : SS L X E (ifF et ea eb) (.If t a b pos) := by
  intro av0 hd0 H0 av hd σ env H m D s0 bi p
  refine wpS_of (ps_if pt_w pss_w pss_w) (ht av hd σ env H m _ bi.rm bi.re ((Post.of bi s0 p).imp fun v m1 H1 _ _ rm1 q => ?_))
  obtain ⟨b1, g1, q⟩ := q
  split at q
  · exact ⟨true, rfl, ha av0 hd0 H0 av hd σ env H1 m1 D s0 b1 (Post.at (hide_gr g1 bi.rm.sub) q)⟩
  · exact ⟨false, rfl, hb av0 hd0 H0 av hd σ env H1 m1 D s0 b1 (Post.at (hide_gr g1 bi.rm.sub) q)⟩
  · exact q.elim
theorem ss_while {et : EnvT → Mem → R SV} {eb : EnvT → Mem → O} {t : Expr} {b : List Stmt} {pos : Pos} (po : PassesOwn (model X.prog X.w) X.A X.env X.xe) (ht : STs L X (fun cls d _ H => E cls d H) et t) (hb : SB L X E eb b) : SS L X E (fun env m => whileL et eb 100 env m) (.While t b [] pos) := by
  intro av0 hd0 H0 av hd σ env H m D s0 bi p
  refine wpS_of (ps_while po pt_w pss_w) ⟨fun n σ H => ∃ av hd env m, BI L X.K av0 hd0 H0 av hd σ env H m ∧ Post L X.K av0 hd0 H0 hd H D E (whileL et eb n env m), ⟨100, av, hd, env, m, bi, p⟩, ?_⟩
  rintro n σ H ⟨av, hd, env, m, bi, p⟩
  cases n with
  | zero => exact p.elim
  | succ n =>
    have g : Good L X.K av hd H (fun cls d H' => E cls d H') (et env m) (fun v m1 H1 => BI L X.K av0 hd0 H0 av hd σ env H1 m1 ∧ ((v = .d (.bool true) ∧ Post L X.K av0 hd0 H0 hd H1 D E ((eb env m1).seq (whileL et eb n))) ∨ (v = .d (.bool false) ∧ Post L X.K av0 hd0 H0 hd H1 D E (.nx env m1)))) := by
      unfold whileL at p
      cases q : et env m with
      | ok v m1 =>
        rw [q] at p
        intro H1 g rm
        refine ⟨bi.go g rm, ?_⟩
        have le := hide_gr g bi.rm.sub
        split at p <;> rename_i hq
        · cases hq; exact .inl ⟨rfl, Post.at le p⟩
        · cases hq; exact .inr ⟨rfl, Post.at le p⟩
        · cases hq
        · exact p.elim
      | ex c pp m1 =>
        rw [q] at p
        exact fun H1 d g rm xp => p H1 d (Gr.ext bi.ex bi.gr g) (rm.cut bi.ex s0 bi.hs) xp
      | no => rw [q] at p; exact p
    refine ht av hd σ env H m _ bi.rm bi.re (g.imp fun v m1 H1 _ _ _ q => ?_)
    obtain ⟨b1, q⟩ := q
    rcases q with ⟨rfl, q⟩ | ⟨rfl, q⟩
    · refine ⟨true, rfl, ?_⟩
      rw [if_pos rfl]
      refine ⟨fun σ' H' => ∃ av hd env m, BI L X.K av0 hd0 H0 av hd σ' env H' m ∧ Post L X.K av0 hd0 H0 hd H' D E (whileL et eb n env m), fun σ' H' w => ⟨n, Nat.lt_succ_self n, w⟩, hb av0 hd0 H0 av hd σ env H1 m1 _ s0 b1 ?_⟩
      cases r : eb env m1 with
      | nx env2 m2 =>
        rw [r] at q
        exact fun av' hd' σ' H' b' le => ⟨av', hd', env2, m2, b', Post.at le q⟩
      | rt v m2 => rw [r] at q; exact q
      | ex c pp m2 => rw [r] at q; exact q
      | no => rw [r] at q; exact q
    · refine ⟨false, rfl, ?_⟩
      rw [if_neg Bool.false_ne_true]
      exact q av hd σ H1 b1 .refl
end
end Tn

set_option maxRecDepth 100000
set_option maxHeartbeats 1000000
/-! Tn20: slots are set. -/
namespace Tn
open PySem PySem.Spec PyProof.Rows L2
section
variable {L : Link} {X : Cx} {K : PySem.W.Frag} {E : XK} {av0 hd0 av hd hd' : List Addr} {H0 H H1 H2 : Hp} {σ σ' : L2.St} {env env' : EnvT} {m m1 : Mem} {D : Ends} {o : O} {x : V} {v : SV}
theorem set_own2 {i j : Nat} {w : SV} {ds : Ds} (h : (env.set i (some w))[j]? = some (some (SV.own ds))) : (i = j ∧ w = .own ds) ∨ (i ≠ j ∧ env[j]? = some (some (.own ds))) := by
  by_cases e : i = j
  · subst e
    by_cases hl : i < env.length
    · rw [List.getElem?_set_self hl] at h
      cases h
      exact .inl ⟨rfl, rfl⟩
    · rw [List.getElem?_eq_none (by simpa using hl)] at h; cases h
  · rw [List.getElem?_set_ne e] at h; exact .inr ⟨e, h⟩
theorem set_ref {i j : Nat} {a : Addr} (hn : i ≠ j) (h : (σ.set i (some x))[j]? = some (some (V.ref a))) : σ[j]? = some (some (V.ref a)) := by
  rw [List.getElem?_set_ne hn] at h; exact h
theorem set_refs {i : Nat} {a : Addr} (h : (σ.set i (some x))[i]? = some (some (V.ref a))) : x = .ref a := by
  by_cases hl : i < σ.length
  · rw [List.getElem?_set_self hl] at h; cases h; rfl
  · rw [List.getElem?_eq_none (by simpa using hl)] at h; cases h
/-- a slot gets no own list -/
theorem BI.setP (b : BI L K av0 hd0 H0 av hd σ env H m) {i : Nat} (hv : ∀ ds, v ≠ .own ds) (r : RSl K L.fa av hd H x v) (hi : i < env.length) : BI L K av0 hd0 H0 av hd (σ.set i (some x)) (env.set i (some v)) H m := by
  refine ⟨b.rm, b.re.set r hi, b.ex, b.hs, b.hn, b.gr, fun j k y z a h1 h2 h3 h4 => ?_, fun j y a h1 h2 => ?_⟩
  · rcases set_own2 h1 with ⟨_, e⟩ | ⟨n1, h1⟩
    · exact absurd e (hv _)
    · rcases set_own2 h2 with ⟨_, e⟩ | ⟨n2, h2⟩
      · exact absurd e (hv _)
      · exact b.ds j k y z a h1 h2 (set_ref n1 h3) (set_ref n2 h4)
  · rcases set_own2 h1 with ⟨_, e⟩ | ⟨n1, h1⟩
    · exact absurd e (hv _)
    · exact b.nh j y a h1 (set_ref n1 h2)
/-- a slot gets an own list that no other slot has -/
theorem BI.setO (b : BI L K av0 hd0 H0 av hd σ env H m) {i : Nat} {ds : Ds} {a : Addr} (r : RSl K L.fa av hd H (.ref a) (.own ds)) (hi : i < env.length) (n0 : a ∉ hd0) (hd9 : ∀ (j : Nat) (y : Ds), env[j]? = some (some (SV.own y)) → σ[j]? ≠ some (some (V.ref a))) :
    BI L K av0 hd0 H0 av hd (σ.set i (some (V.ref a))) (env.set i (some (SV.own ds))) H m := by
  refine ⟨b.rm, b.re.set r hi, b.ex, b.hs, b.hn, b.gr, fun j k y z c h1 h2 h3 h4 => ?_, fun j y c h1 h2 => ?_⟩
  · rcases set_own2 h1 with ⟨e1, _⟩ | ⟨n1, h1⟩
    · subst e1
      rcases set_own2 h2 with ⟨e2, _⟩ | ⟨n2, h2⟩
      · exact e2
      · cases set_refs h3
        exact absurd (set_ref n2 h4) (hd9 k z h2)
    · rcases set_own2 h2 with ⟨e2, _⟩ | ⟨n2, h2⟩
      · subst e2
        cases set_refs h4
        exact absurd (set_ref n1 h3) (hd9 j y h1)
      · exact b.ds j k y z c h1 h2 (set_ref n1 h3) (set_ref n2 h4)
  · rcases set_own2 h1 with ⟨e1, _⟩ | ⟨n1, h1⟩
    · subst e1
      cases set_refs h2
      exact n0
    · exact b.nh j y c h1 (set_ref n1 h2)
/-- a fresh own list becomes a hidden one -/
theorem BI.hid (b : BI L K av0 hd0 H0 av hd σ env H m) (g : Gr av H H1) (rm : RM L.T K av hd H1 m1) {a : Addr} (n : H a = none) (ha : H1 a ≠ none) : BI L K av0 hd0 H0 av (a :: hd) σ env H1 m1 ∧ Le (hide hd H) (hide (a :: hd) H1) := by
  refine ⟨⟨rm.wd (fun c hc => List.mem_cons_of_mem _ hc) fun c hc => ?_, b.re.new g b.rm.sub n, b.ex, fun c hc => List.mem_cons_of_mem _ (b.hs c hc), fun c hc h0 => ?_, Gr.ext b.ex b.gr g, b.ds, b.nh⟩, hide_new g b.rm.sub n⟩
  · rcases List.mem_cons.mp hc with rfl | hc
    · exact ha
    · exact rm.al c hc
  · rcases List.mem_cons.mp hc with rfl | hc
    · exact b.gr.free n
    · exact b.hn c hc h0
theorem BI.own_in (b : BI L K av0 hd0 H0 av hd σ env H m) {j : Nat} {y : Ds} {a : Addr} (h : env[j]? = some (some (SV.own y))) (e : σ[j]? = some (some (V.ref a))) : a ∈ hd := by
  obtain ⟨x, h1, h2⟩ := b.re.sl j _ h
  rw [e] at h1
  cases h1
  obtain ⟨c, xs, e, h3, _⟩ := h2
  cases e
  exact h3
/-- a slot gets an expression's value -/
theorem BI.set (b : BI L K av0 hd0 H0 av hd σ env H m) (g : Gr av H H1) (rm : RM L.T K av hd H1 m1) {i : Nat} (r : RV K L.fa av hd H H1 x v) (hp : ∀ ds, v ≠ .p ds) (hi : i < env.length) :
    ∃ hd', BI L K av0 hd0 H0 av hd' (σ.set i (some x)) (env.set i (some v)) H1 m1 ∧ Le (hide hd H) (hide hd' H1) := by
  have b1 := b.go g rm
  have le := hide_gr g b.rm.sub
  cases v with
  | own ds =>
    obtain ⟨a, xs, rfl, n0, nh, e, rr⟩ := r
    obtain ⟨b2, le2⟩ := b.hid g rm n0 (by rw [e]; exact fun z => nomatch z)
    refine ⟨a :: hd, b2.setO ⟨a, xs, rfl, List.mem_cons_self, fun z => nh (b.rm.sub a z), e, rr⟩ hi (fun z => nh (b.hs a z)) fun j y h1 h2 => nh (b.own_in h1 h2), le2⟩
  | p ds => exact absurd rfl (hp ds)
  | d y => exact ⟨hd, b1.setP (fun _ => SV.noConfusion) r hi, le⟩
  | h k => exact ⟨hd, b1.setP (fun _ => SV.noConfusion) r hi, le⟩
  | f n => exact ⟨hd, b1.setP (fun _ => SV.noConfusion) r hi, le⟩
  | s ns => exact ⟨hd, b1.setP (fun _ => SV.noConfusion) r hi, le⟩
def asF (i : Nat) (ea : EnvT → Mem → R SV) : EnvT → Mem → O := fun env m => .of (ea env m) fun v m => setS env i v m
theorem slotV_ok {w : SV} (h : slotV v = some w) : w = v ∧ ∀ ds, v ≠ .p ds := by
  cases v <;> cases h <;> exact ⟨rfl, fun _ z => by cases z⟩
theorem ss_asg {ea : EnvT → Mem → R SV} {a : Expr} {i : Nat} {z : Str} {p spos : Pos} (h1 : X.N[i]? = some z) (h2 : Sto X z) (ha : SAs L X (fun cls d _ H => E cls d H) ea a) : SS L X E (asF i ea) (.Assign [.Name z p] a spos) := by
  intro av0 hd0 H0 av hd σ env H m D s0 b q
  refine ha i z p spos h1 h2 av hd σ env H m D b.rm b.re ((Post.of b s0 q).imp fun v m1 H1 _ g1 rm1 q x rx => ?_)
  obtain ⟨b1, _, q⟩ := q
  unfold setS at q
  cases hs : slotV v with
  | none => rw [hs] at q; exact q.elim
  | some w =>
    rw [hs] at q
    obtain ⟨rfl, hp⟩ := slotV_ok hs
    simp only at q
    split at q
    · rename_i hi
      obtain ⟨hd', b2, le⟩ := b.set g1 rm1 (i := i) rx hp hi
      exact q av hd' _ H1 b2 le
    · exact q.elim
/-- vat = .. -/
def nwF (i : Nat) (ea : EnvT → Mem → R SV) : EnvT → Mem → O := fun env m => .of (ea env m) fun v m => match v with
    | .own ds => match intsOf ds with
      | some ns => if i < env.length then .nx (env.set i (some (.h m.length))) (m ++ [.nums ns]) else .no
      | none => .no
    | _ => .no
theorem BI.newh (b : BI L K av0 hd0 H0 av hd σ env H m) (g : Gr av H H1) (rm : RM L.T K av hd H1 m1) {i : Nat} {ds : Ds} {ns : List Int} (r : RV K L.fa av hd H H1 x (.own ds)) (hn : intsOf ds = some ns) (hi : i < env.length) :
    ∃ av' hd', BI L K av0 hd0 H0 av' hd' (σ.set i (some x)) (env.set i (some (SV.h m1.length))) H1 (m1 ++ [.nums ns]) ∧ Le (hide hd H) (hide hd' H1) := by
  obtain ⟨a, xs, rfl, n0, nh, e, rr⟩ := r
  have ez := dqAll_ints hn rr.1
  subst ez
  obtain ⟨b2, le2⟩ := b.hid g rm n0 (by rw [e]; exact fun z => nomatch z)
  have na : a ∉ av := fun z => nh (b.rm.sub a z)
  have hav : ∀ {k : Nat} {c : Addr}, av[k]? = some c → (av ++ [a])[k]? = some c := fun {k c} h => by
    rw [List.getElem?_append_left (List.getElem?_eq_some_iff.mp h).1]; exact h
  refine ⟨av ++ [a], a :: hd, ?_, le2⟩
  have rm2 : RM L.T K (av ++ [a]) (a :: hd) H1 (m1 ++ [.nums ns]) := by
    refine ⟨by rw [List.length_append, List.length_append, rm.len]; rfl, ?_, fun c hc => ?_, fun k c o h1 h2 => ?_, rm.tab, b2.rm.al⟩
    · refine List.nodup_append.mpr ⟨rm.nd, by simp, fun c hc d hd' => ?_⟩
      simp at hd'
      rw [hd']
      exact fun z => na (by rw [← z]; exact hc)
    · rcases List.mem_append.mp hc with hc | hc
      · exact b2.rm.sub c hc
      · simp at hc; rw [hc]; exact List.mem_cons_self
    · by_cases hk : k < av.length
      · rw [List.getElem?_append_left hk] at h1
        rw [List.getElem?_append_left (by rw [← rm.len]; exact hk)] at h2
        have := rm.mo k c o h1 h2
        cases o with
        | nums ns => exact this
      · have hk2 : k < (av ++ [a]).length := (List.getElem?_eq_some_iff.mp h1).1
        have ek : k = av.length := by rw [List.length_append] at hk2; simp at hk2; omega
        subst ek
        rw [List.getElem?_append_right (Nat.le_refl _)] at h1
        rw [rm.len, List.getElem?_append_right (Nat.le_refl _)] at h2
        simp at h1 h2
        subst h1 h2
        exact e
  have re2 : REn K L.fa (av ++ [a]) (a :: hd) H1 σ env := ⟨b2.re.len, fun j v h => by
    obtain ⟨y, h1, h2⟩ := b2.re.sl j v h
    refine ⟨y, h1, ?_⟩
    cases v with
    | own ds =>
      obtain ⟨c, xs, rfl, k1, k2, k3, k4⟩ := h2
      refine ⟨c, xs, rfl, k1, fun z => ?_, k3, k4⟩
      rcases List.mem_append.mp z with z | z
      · exact k2 z
      · simp at z
        subst z
        exact nh (b.own_in h h1)
    | p ds => exact h2
    | d y => exact h2
    | h k =>
      obtain ⟨c, k1, k2⟩ := h2
      exact ⟨c, hav k1, k2⟩
    | f n => exact h2
    | s ns => exact h2⟩
  have b3 : BI L K av0 hd0 H0 (av ++ [a]) (a :: hd) σ env H1 (m1 ++ [.nums ns]) := by
    refine ⟨rm2, re2, ?_, b2.hs, b2.hn, b2.gr, b2.ds, b2.nh⟩
    obtain ⟨nw, e, hn⟩ := b.ex
    refine ⟨nw ++ [a], by rw [e, List.append_assoc], fun c hc => ?_⟩
    rcases List.mem_append.mp hc with hc | hc
    · exact hn c hc
    · simp at hc; rw [hc]; exact b.gr.free n0
  refine b3.setP (fun _ => SV.noConfusion) ⟨a, ?_, rfl⟩ hi
  rw [← rm.len, List.getElem?_append_right (Nat.le_refl _)]
  simp
theorem ss_newh {ea : EnvT → Mem → R SV} {a : Expr} {i : Nat} {z : Str} {p spos : Pos} (h1 : X.N[i]? = some z) (h2 : Sto X z) (ha : SAs L X (fun cls d _ H => E cls d H) ea a) : SS L X E (nwF i ea) (.Assign [.Name z p] a spos) := by
  intro av0 hd0 H0 av hd σ env H m D s0 b q
  refine ha i z p spos h1 h2 av hd σ env H m D b.rm b.re ((Post.of b s0 q).imp fun v m1 H1 _ g1 rm1 q x rx => ?_)
  obtain ⟨b1, _, q⟩ := q
  cases v with
  | own ds =>
    simp only at q
    cases hn : intsOf ds with
    | none => rw [hn] at q; exact q.elim
    | some ns =>
      rw [hn] at q
      simp only at q
      split at q
      · rename_i hi
        obtain ⟨av', hd', b2, le⟩ := b.newh g1 rm1 (i := i) rx hn hi
        exact q av' hd' _ H1 b2 le
      · exact q.elim
  | _ => exact q.elim
end
end Tn

set_option maxRecDepth 100000
set_option maxHeartbeats 1000000
/-! Tn21: an own list grows, is written; a loop; a raise. -/
namespace Tn
open PySem PySem.Spec PyProof.Rows L2
section
variable {L : Link} {X : Cx} {K : PySem.W.Frag} {E : XK} {av0 hd0 av hd hd' : List Addr} {H0 H H1 H2 : Hp} {σ σ' : L2.St} {env env' : EnvT} {m m1 : Mem} {D : Ends} {o : O} {x y : V} {v : SV}
/-- an own list is another one now -/
theorem BI.wr (b : BI L K av0 hd0 H0 av hd σ env H m) {i : Nat} {ds es : Ds} {a : Addr} {xs ys : List V} (h1 : env[i]? = some (some (SV.own ds))) (h2 : σ[i]? = some (some (V.ref a))) (h3 : H a = some (.lst xs)) (r : RpAll K hd H ys es) :
    BI L K av0 hd0 H0 av hd σ (env.set i (some (SV.own es))) (upd H a (.lst ys)) m ∧ hide hd (upd H a (.lst ys)) = hide hd H := by
  have ha := b.own_in h1 h2
  have n0 := b.nh i ds a h1 h2
  have hna : a ∉ av := by
    obtain ⟨x, k1, k2⟩ := b.re.sl i _ h1
    rw [h2] at k1; cases k1
    obtain ⟨c, zs, e, _, k3, _⟩ := k2
    cases e
    exact k3
  have e : hide hd (upd H a (.lst ys)) = hide hd H := hide_upd ha
  have hi : i < env.length := (List.getElem?_eq_some_iff.mp h1).1
  refine ⟨⟨b.rm.own h3 hna, ⟨by rw [List.length_set]; exact b.re.len, fun j v hj => ?_⟩, b.ex, b.hs, b.hn, b.gr.own (b.hn a ha n0), fun j k y z c g1 g2 g3 g4 => ?_, fun j y c g1 g2 => ?_⟩, e⟩
  · by_cases hij : i = j
    · subst hij
      rw [List.getElem?_set_self hi] at hj
      cases hj
      refine ⟨_, h2, a, ys, rfl, ha, hna, upd_same, ?_⟩
      refine ⟨?_, r.2⟩
      rw [e]; exact r.1
    · rw [List.getElem?_set_ne hij] at hj
      obtain ⟨x, k1, k2⟩ := b.re.sl j v hj
      refine ⟨x, k1, ?_⟩
      cases v with
      | own us =>
        obtain ⟨c, zs, rfl, q1, q2, q3, q4⟩ := k2
        have hne : c ≠ a := fun z => hij (b.ds i j _ _ a h1 hj h2 (by rw [← z]; exact k1))
        refine ⟨c, zs, rfl, q1, q2, by rw [upd_ne hne]; exact q3, ?_⟩
        refine ⟨?_, q4.2⟩
        rw [e]; exact q4.1
      | p us => exact k2
      | d z =>
        obtain ⟨q1, q2⟩ := k2
        refine ⟨?_, q2⟩
        rw [e]; exact q1
      | h k => exact k2
      | f n => exact k2
      | s ns =>
        obtain ⟨c, rfl, q⟩ := k2
        refine ⟨c, rfl, ?_⟩
        rw [e]; exact q
  · have q1 : ∃ y', env[j]? = some (some (SV.own y')) := by
      rcases set_own2 g1 with ⟨rfl, _⟩ | ⟨_, g1⟩
      · exact ⟨_, h1⟩
      · exact ⟨_, g1⟩
    have q2 : ∃ y', env[k]? = some (some (SV.own y')) := by
      rcases set_own2 g2 with ⟨rfl, _⟩ | ⟨_, g2⟩
      · exact ⟨_, h1⟩
      · exact ⟨_, g2⟩
    obtain ⟨_, q1⟩ := q1
    obtain ⟨_, q2⟩ := q2
    exact b.ds j k _ _ c q1 q2 g3 g4
  · rcases set_own2 g1 with ⟨rfl, _⟩ | ⟨_, g1⟩
    · exact b.nh _ _ c h1 g2
    · exact b.nh _ _ c g1 g2
theorem own_at (b : BI L K av0 hd0 H0 av hd σ env H m) {i : Nat} {ds : Ds} (h1 : env[i]? = some (some (SV.own ds))) : ∃ a xs, σ[i]? = some (some (V.ref a)) ∧ H a = some (.lst xs) ∧ RpAll K hd H xs ds := by
  obtain ⟨x, k1, k2⟩ := b.re.sl i _ h1
  obtain ⟨a, xs, rfl, _, _, e, r⟩ := k2
  exact ⟨a, xs, k1, e, r⟩
def apF (i : Nat) (ea : EnvT → Mem → R SV) : EnvT → Mem → O := fun env m => match env[i]? with
    | some (some (.own ds)) => .of (ea env m) fun v m => match toD v with
      | some y => if ds.length < LIM then .nx (env.set i (some (.own (ds ++ [y])))) m else .no
      | none => .no
    | _ => .no
theorem ss_app {ea : EnvT → Mem → R SV} {a : Expr} {i : Nat} {z : Str} {p ap cp pos : Pos} (hv : visB X.N X.env.scope i z = true) (hl : (ap.endLine == cp.line) = true) (hs : sh a = true) (ha : SE L X (fun cls d _ H => E cls d H) ea a) :
    SS L X E (apF i ea) (.Expr (.Call (.Attribute (.Name z p) "append" ap) [a] [] cp) pos) := by
  intro av0 hd0 H0 av hd σ env H m D s0 b q
  obtain ⟨h1, h2, h3, h4⟩ := vis_of hv
  refine wpS_of (ps_expr (pe_bm F.plainAttrs_list F.slot_list_append F.type_list_append mt_append (pe_var h1 h2 h3 h4) (pa_cons pe_w pa_nil (star_ok hs)) rfl (star_few (by simp [hs]) (by show 1 < 20; decide)) hl (star_ok hs) rfl)) ?_
  unfold apF at q
  cases e : env[i]? with
  | none => rw [e] at q; exact q.elim
  | some o =>
  cases o with
  | none => rw [e] at q; exact q.elim
  | some w =>
  rw [e] at q
  cases w with
  | own ds =>
    obtain ⟨l, xs, k1, k2, k3⟩ := own_at b e
    refine ⟨_, k1, .inl ⟨rfl, xs, .of k2⟩, ha av hd σ env H m _ b.rm b.re ((Post.of b s0 q).imp fun v m1 H1 _ g1 rm1 q x rx => ?_)⟩
    obtain ⟨b1, _, q⟩ := q
    cases ht : toD v with
    | none => simp only [ht] at q; exact q.elim
    | some y =>
      simp only [ht] at q
      split at q
      · rename_i hlt
        obtain ⟨l', xs', k1', k2', k3'⟩ := own_at b1 e
        rw [k1] at k1'; cases k1'
        have ry := rp_toD rm1.sub rx ht
        obtain ⟨b2, e2⟩ := b1.wr (ys := xs' ++ [x]) e k1 k2' ⟨k3'.1.app (.cons ry.1 .nil), k3'.2.app (by simp only [LayAll, ascAll, Bool.and_eq_true]; exact ⟨ry.2, trivial⟩)⟩
        refine ⟨_, xs', x, rfl, rfl, k2', by rw [k3'.1.len]; exact lim_lt (by omega), q av hd σ _ b2 ?_⟩
        rw [e2]
        exact hide_gr g1 b.rm.sub
      · exact q.elim
  | _ => exact q.elim
end
end Tn

set_option maxRecDepth 100000
set_option maxHeartbeats 1000000
/-! Tn22: items are set; loops; a raise. -/
namespace Tn
open PySem PySem.Spec PyProof.Rows L2
section
variable {L : Link} {X : Cx} {K : PySem.W.Frag} {E : XK} {av0 hd0 av hd hd' : List Addr} {H0 H H1 H2 : Hp} {σ σ' : L2.St} {env env' : EnvT} {m m1 : Mem} {D : Ends} {o : O} {x y : V} {v : SV}
theorem swS {o i e : Expr} {sp : Pos} {l : Nat} : swapsWithSole [.Subscript o i sp] e l X.env = pure false := by cases e <;> rfl
theorem swN {o i e : Expr} {sp : Pos} : swappedStores [.Subscript o i sp] e X.env = pure none := by cases e <;> rfl
theorem nodup_ix {α : Type} {l : List α} (h : l.Nodup) {i j : Nat} (hi : i < l.length) (hj : j < l.length) (e : l[i] = l[j]) : i = j := by
  have h := List.pairwise_iff_getElem.mp h
  rcases Nat.lt_trichotomy i j with c | c | c
  · exact absurd e (h i j hi hj c)
  · exact c
  · exact absurd e.symm (h j i hj hi c)
/-- a handle's list is another one now -/
theorem BI.wh (b : BI L K av0 hd0 H0 av hd σ env H m) {k : Nat} {a : Addr} {ns ms : List Int} (h1 : av[k]? = some a) (h2 : m[k]? = some (.nums ns)) :
    BI L K av0 hd0 H0 av hd σ env (upd H a (.lst (ms.map V.int))) (m.set k (.nums ms)) ∧ Le (hide hd H) (hide hd (upd H a (.lst (ms.map V.int)))) := by
  have ha : a ∈ av := List.mem_of_getElem? h1
  have hH : H a = some (.lst (ns.map V.int)) := b.rm.mo k a _ h1 h2
  have g : Gr av H (upd H a (.lst (ms.map V.int))) := ⟨fun c o e n _ => by rw [upd_ne (fun z => n (by rw [z]; exact ha))]; exact e, upd_al⟩
  have hk : k < m.length := (List.getElem?_eq_some_iff.mp h2).1
  have hka : k < av.length := (List.getElem?_eq_some_iff.mp h1).1
  refine ⟨b.go g ⟨by rw [List.length_set]; exact b.rm.len, b.rm.nd, b.rm.sub, fun j c o q1 q2 => ?_, ?_, fun c hc => upd_al c (b.rm.al c hc)⟩, hide_gr g b.rm.sub⟩
  · by_cases hj : k = j
    · subst hj
      rw [List.getElem?_set_self hk] at q2
      cases q2
      rw [h1] at q1; cases q1
      exact upd_same
    · rw [List.getElem?_set_ne hj] at q2
      have hne : c ≠ a := fun z => by
        subst z
        have hjl : j < av.length := (List.getElem?_eq_some_iff.mp q1).1
        have e1 := (List.getElem?_eq_some_iff.mp h1).2
        have e2 := (List.getElem?_eq_some_iff.mp q1).2
        exact hj (nodup_ix b.rm.nd hka hjl (e1.trans e2.symm))
      have := b.rm.mo j c o q1 q2
      cases o with
      | nums us =>
        show upd _ _ _ c = _
        rw [upd_ne hne]; exact this
  · exact tabs_to b.rm.tab fun c o e t => by
      have : c ≠ a := fun z => by rw [z, hH] at e; cases e; exact t _ rfl
      rw [upd_ne this]; exact e
def stF (i : Nat) (ex ee : EnvT → Mem → R SV) : EnvT → Mem → O := fun env m => match env[i]? with
    | some (some (.own ds)) => .of (ee env m) fun v m => .of (ex env m) fun w m => match w, toD v with
      | .d (.int j), some y => if 0 ≤ j ∧ j.toNat < ds.length then .nx (env.set i (some (.own (ds.set j.toNat y)))) m else .no
      | _, _ => .no
    | some (some (.h k)) => .of (ee env m) fun v m => .of (ex env m) fun w m => match w, v with
      | .d (.int j), .d (.int y) => match m[k]? with
        | some (.nums ns) => if 0 ≤ j ∧ j.toNat < ns.length then .nx env (m.set k (.nums (ns.set j.toNat y))) else .no
        | none => .no
      | _, _ => .no
    | _ => .no
theorem ix_ok2 {n : Nat} {j : Int} (h : 0 ≤ j ∧ j.toNat < n) : ixN n j = some j.toNat := by
  unfold ixN
  rw [if_pos h.1, if_pos (by omega)]
theorem ss_sti {ex ee : EnvT → Mem → R SV} {a ix : Expr} {i : Nat} {z : Str} {p sp pos : Pos} (hv : visB X.N X.env.scope i z = true) (hs : sh ix = true) (hx : SE L X (fun cls d _ H => E cls d H) ex ix) (ha : SE L X (fun cls d _ H => E cls d H) ee a) :
    SS L X E (stF i ex ee) (.Assign [.Subscript (.Name z p) ix sp] a pos) := by
  intro av0 hd0 H0 av hd σ env H m D s0 b q
  obtain ⟨h1, h2, h3, h4⟩ := vis_of hv
  refine wpS_of (ps_asg pe_w (pg_sub (pe_var h1 h2 h3 h4) pe_w set_list (by intro v; cases ix <;> first | rfl | (simp [sh] at hs))) swS swN rfl) ?_
  unfold stF at q
  cases e : env[i]? with
  | none => rw [e] at q; exact q.elim
  | some o =>
  cases o with
  | none => rw [e] at q; exact q.elim
  | some w =>
  rw [e] at q
  cases w with
  | own ds =>
    refine ha av hd σ env H m _ b.rm b.re ((Post.of b s0 q).imp fun v m1 H1 _ g1 rm1 q x rx => ?_)
    obtain ⟨b1, _, q⟩ := q
    obtain ⟨l, xs, k1, k2, k3⟩ := own_at b1 e
    refine ⟨_, k1, hx av hd σ env H1 m1 _ rm1 b1.re ((Post.of b1 s0 (Post.at (hide_gr g1 b.rm.sub) q)).imp fun w m2 H2 _ g2 rm2 q y ry => ?_)⟩
    obtain ⟨b2, _, q⟩ := q
    split at q
    · rename_i j y' ht _
      split at q
      · rename_i hlt
        obtain ⟨l', xs', k1', k2', k3'⟩ := own_at b2 e
        rw [k1] at k1'; cases k1'
        have rd := rp_toD rm2.sub (rx.gr g2 rm2.sub) ht
        obtain ⟨b3, e3⟩ := b2.wr (ys := xs'.set j.toNat x) e k1 k2' ⟨k3'.1.set rd.1 _, k3'.2.of_sub' rd.2⟩
        cases (show Dq X.K (hide hd H2) y (.int j) from ry.1)
        refine ⟨_, xs', j, j.toNat, rfl, rfl, k2', ix_ok2 (by rw [k3'.1.len]; exact hlt), q av hd σ _ b3 ?_⟩
        rw [e3]
        exact hide_gr g2 rm2.sub
      · exact q.elim
    · exact q.elim
  | h k =>
    refine ha av hd σ env H m _ b.rm b.re ((Post.of b s0 q).imp fun v m1 H1 _ g1 rm1 q x rx => ?_)
    obtain ⟨b1, _, q⟩ := q
    obtain ⟨y0, k1, k2⟩ := b1.re.sl i _ e
    obtain ⟨a, k3, rfl⟩ := k2
    refine ⟨_, k1, hx av hd σ env H1 m1 _ rm1 b1.re ((Post.of b1 s0 (Post.at (hide_gr g1 b.rm.sub) q)).imp fun w m2 H2 _ g2 rm2 q y ry => ?_)⟩
    obtain ⟨b2, _, q⟩ := q
    split at q
    · rename_i j y' _ _ _
      cases hm : m2[k]? with
      | none => rw [hm] at q; exact q.elim
      | some ob =>
        rw [hm] at q
        cases ob with
        | nums ns =>
          simp only at q
          split at q
          · rename_i hlt
            obtain ⟨b3, le3⟩ := b2.wh (ms := ns.set j.toNat y') k3 hm
            have hH : H2 a = some (.lst (ns.map V.int)) := rm2.mo k a _ k3 hm
            cases (show Dq X.K (hide hd H2) y (.int j) from ry.1)
            cases (show Dq X.K (hide hd H1) x (.int y') from rx.1)
            refine ⟨a, ns.map V.int, j, j.toNat, rfl, rfl, hH, ix_ok2 (by rw [List.length_map]; exact hlt), ?_⟩
            rw [← List.map_set]
            exact q av hd σ _ b3 ((hide_gr g2 rm2.sub).trans le3)
          · exact q.elim
    · exact q.elim
  | _ => exact q.elim
end
end Tn

set_option maxRecDepth 100000
set_option maxHeartbeats 1000000
/-! Tn23: loops, unpacking, a raise. -/
namespace Tn
open PySem PySem.Spec PyProof.Rows L2
def tgIs : Tg → List Nat
  | .one i => [i]
  | .tup is => is
section
variable {L : Link} {X : Cx} {K : PySem.W.Frag} {E : XK} {av0 hd0 av hd hd' : List Addr} {H0 H H1 H2 : Hp} {σ σ' : L2.St} {env env' : EnvT} {m m1 : Mem} {D : Ends} {o : O} {x y : V} {v : SV}
/-- an own list becomes data -/
theorem BI.fz (b : BI L K av0 hd0 H0 av hd σ env H m) (i : Nat) : ∃ hd', BI L K av0 hd0 H0 av hd' σ (fz i env) H m ∧ Le (hide hd H) (hide hd' H) := by
  unfold Tn.fz
  split
  · rename_i ds e
    obtain ⟨x, k1, k2⟩ := b.re.sl i _ e
    obtain ⟨a, xs, rfl, q1, q2, q3, q4⟩ := k2
    have n0 := b.nh i ds a e k1
    have hi : i < env.length := (List.getElem?_eq_some_iff.mp e).1
    have sub : ∀ c ∈ hd.filter (fun c => decide (c ≠ a)), c ∈ hd := fun c hc => (List.mem_filter.mp hc).1
    have inn : ∀ {c}, c ∈ hd → c ≠ a → c ∈ hd.filter (fun c => decide (c ≠ a)) := fun {c} h n => List.mem_filter.mpr ⟨h, decide_eq_true n⟩
    have na : a ∉ hd.filter (fun c => decide (c ≠ a)) := fun z => (of_decide_eq_true (List.mem_filter.mp z).2) rfl
    have le : Le (hide hd H) (hide (hd.filter (fun c => decide (c ≠ a))) H) := hide_sub sub
    refine ⟨hd.filter (fun c => decide (c ≠ a)), ⟨⟨b.rm.len, b.rm.nd, fun c hc => inn (b.rm.sub c hc) fun z => q2 (by rw [← z]; exact hc), fun k c o h1 h2 => ?_, b.rm.tab, fun c hc => b.rm.al c (sub c hc)⟩, ⟨by rw [List.length_set]; exact b.re.len, fun j v hj => ?_⟩, b.ex, fun c hc => inn (b.hs c hc) fun z => n0 (by rw [← z]; exact hc), fun c hc => b.hn c (sub c hc), b.gr, fun j k y z c g1 g2 g3 g4 => ?_, fun j y c g1 g2 => ?_⟩, le⟩
    · have := b.rm.mo k c o h1 h2
      cases o with
      | nums ns => exact this
    · by_cases hij : i = j
      · subst hij
        rw [List.getElem?_set_self hi] at hj
        cases hj
        refine ⟨_, k1, .lst (by rw [hide_out na]; exact q3) (dqAll_le le _ _ q4.1), lay_list.mpr q4.2⟩
      · rw [List.getElem?_set_ne hij] at hj
        obtain ⟨x, p1, p2⟩ := b.re.sl j v hj
        refine ⟨x, p1, ?_⟩
        cases v with
        | own us =>
          obtain ⟨c, zs, rfl, r1, r2, r3, r4⟩ := p2
          have hne : c ≠ a := fun z => hij (b.ds i j _ _ a e hj k1 (by rw [← z]; exact p1))
          exact ⟨c, zs, rfl, inn r1 hne, r2, r3, r4.le le⟩
        | p us => exact p2
        | d z => exact Rp.le p2 le
        | h k => exact p2
        | f n => exact p2
        | s ns =>
          obtain ⟨c, rfl, q⟩ := p2
          exact ⟨c, rfl, sqL_le le q⟩
    · exact b.ds j k y z c (set_own (fun _ => SV.noConfusion) g1) (set_own (fun _ => SV.noConfusion) g2) g3 g4
    · exact b.nh j y c (set_own (fun _ => SV.noConfusion) g1) g2
  · exact ⟨hd, b, .refl⟩
theorem BI.frz (b : BI L K av0 hd0 H0 av hd σ env H m) (it : Tn.It) : ∃ hd', BI L K av0 hd0 H0 av hd' σ (frz it env) H m ∧ Le (hide hd H) (hide hd' H) := by
  have one : ∀ i, ∃ hd', BI L K av0 hd0 H0 av hd' σ (Tn.fz i env) H m ∧ Le (hide hd H) (hide hd' H) := fun i => b.fz i
  unfold Tn.frz
  split
  · exact one _
  · exact one _
  · rename_i i j
    obtain ⟨hd1, b1, l1⟩ := b.fz j
    obtain ⟨hd2, b2, l2⟩ := b1.fz i
    exact ⟨hd2, b2, l1.trans l2⟩
  · exact one _
  · exact one _
  · exact ⟨hd, b, .refl⟩
theorem setF_own2 : ∀ {l : List (Nat × PyData)} {env : EnvT} {j : Nat} {ds : Ds}, (l.foldl (fun e p => e.set p.1 (some (SV.d p.2))) env)[j]? = some (some (.own ds)) → ∀ p ∈ l, p.1 ≠ j
  | [], _, _, _, _, p, hp => by cases hp
  | q :: r, env, j, ds, h, p, hp => by
    rw [List.foldl_cons] at h
    rcases List.mem_cons.mp hp with rfl | hp
    · intro e
      have := setF_own h
      rcases set_own2 this with ⟨_, z⟩ | ⟨z, _⟩
      · cases z
      · exact z e
    · exact setF_own2 h p hp
theorem bindT_own2 {tg : Tg} {i : Nat} {ds : Ds} (h : bindT tg v env = some env') (e : env'[i]? = some (some (.own ds))) : i ∉ tgIs tg := by
  unfold bindT at h
  split at h
  · split at h
    · cases h
      intro hi
      simp only [tgIs, List.mem_singleton] at hi
      rcases set_own2 e with ⟨_, z⟩ | ⟨z, _⟩
      · cases z
      · exact z hi.symm
    · cases h
  · split at h
    · cases h
      intro hi
      simp only [tgIs, List.mem_singleton] at hi
      rcases set_own2 e with ⟨_, z⟩ | ⟨z, _⟩
      · cases z
      · exact z hi.symm
    · cases h
  · rename_i is ds
    split at h
    · rename_i hc
      cases h
      intro hi
      obtain ⟨k, hk, e2⟩ := List.mem_iff_getElem.mp (show i ∈ is from hi)
      have hk2 : k < ds.length := by rw [← hc.1]; exact hk
      have hm : (is[k], ds[k]) ∈ is.zip ds := List.mem_iff_getElem.mpr ⟨k, by rw [List.length_zip]; omega, by rw [List.getElem_zip]⟩
      exact setF_own2 e _ hm e2
    · cases h
  · cases h
/-- targets are bound -/
theorem BI.tgt (b : BI L K av0 hd0 H0 av hd σ env H m) {tg : Tg} (h : bindT tg v env = some env') (re : REn K L.fa av hd H σ' env') (hσ : ∀ j, j ∉ tgIs tg → σ'[j]? = σ[j]?) : BI L K av0 hd0 H0 av hd σ' env' H m := by
  refine ⟨b.rm, re, b.ex, b.hs, b.hn, b.gr, fun j k y z c g1 g2 g3 g4 => ?_, fun j y c g1 g2 => ?_⟩
  · rw [hσ j (bindT_own2 h g1)] at g3
    rw [hσ k (bindT_own2 h g2)] at g4
    exact b.ds j k y z c (bindT_own h g1) (bindT_own h g2) g3 g4
  · rw [hσ j (bindT_own2 h g1)] at g2
    exact b.nh j y c (bindT_own h g1) g2
def unF (is : List Nat) (ea : EnvT → Mem → R SV) : EnvT → Mem → O := fun env m => .of (ea env m) fun v m => match bindT (.tup is) v env with
    | some e' => .nx e' m
    | none => .no
theorem swT {ts : List Expr} {k : Nat} {tp : Pos} {e : Expr} {l : Nat} : swapsWithSole [.Tuple ts k tp] e l X.env = pure false := by cases e <;> rfl
theorem swM {ts : List Expr} {k : Nat} {tp : Pos} {e : Expr} (h : isTup e = false) : swappedStores [.Tuple ts k tp] e X.env = pure none := by cases e <;> first | rfl | (simp [isTup] at h)
theorem ss_unp {ea : EnvT → Mem → R SV} {a : Expr} {is : List Nat} {ts : List Expr} {k : Nat} {tp pos : Pos} (ht : isTup a = false) (hg : SG L X is (.tup is) (.Tuple ts k tp)) (ha : SE L X (fun cls d _ H => E cls d H) ea a) : SS L X E (unF is ea) (.Assign [.Tuple ts k tp] a pos) := by
  intro av0 hd0 H0 av hd σ env H m D s0 b q
  refine wpS_of (ps_asg pe_w pg_w swT (swM ht) rfl) (ha av hd σ env H m _ b.rm b.re ((Post.of b s0 q).imp fun v m1 H1 _ g1 rm1 q x rx => ?_))
  obtain ⟨b1, _, q⟩ := q
  cases hb : bindT (.tup is) v env with
  | none => rw [hb] at q; exact q.elim
  | some e' =>
    rw [hb] at q
    exact hg av hd σ env e' H1 H x v _ rm1.sub b1.re rx hb fun σ' re' hσ => q av hd σ' H1 (b1.tgt hb re' hσ) (hide_gr g1 b.rm.sub)
def frF (it : Tn.It) (tg : Tg) (ei : EnvT → Mem → R (List SV)) (eb : EnvT → Mem → O) : EnvT → Mem → O := fun env m => .of (ei (frz it env) m) fun xs m => forL tg eb xs (frz it env) m
theorem ss_for {ei : EnvT → Mem → R (List SV)} {eb : EnvT → Mem → O} {it : Tn.It} {tg : Tg} {tg' it' : Expr} {body : List Stmt} {pos : Pos} (po : PassesOwn (model X.prog X.w) X.A X.env X.xe) (hc : X.calm = true) (hi : SI L X (fun cls d _ H => E cls d H) false ei tg' it') (hf : ∀ x, foldedSetIterable it' X.env x = pure x)
    (hg : SG L X (tgIs tg) tg tg') (hb : SB L X E eb body) : SS L X E (frF it tg ei eb) (.For tg' it' body [] pos) := by
  intro av0 hd0 H0 av hd σ env H m D s0 b q
  obtain ⟨hd1, b1, le1⟩ := b.frz it
  unfold frF at q
  generalize frz it env = env1 at q b1
  refine wpS_of (ps_for po hc pi_w pg_w pss_w hf) ?_
  refine hi av hd1 σ env1 H m _ b1.rm b1.re ((Post.of b1 s0 (Post.at le1 q)).imp fun xs m1 H1 _ g1 rm1 q J yl => ?_)
  obtain ⟨b2, _, q⟩ := q
  have q := Post.at (hide_gr g1 b1.rm.sub) q
  refine ⟨fun i n σ H => n = xs.length - i ∧ i ≤ xs.length ∧ ∃ av hd env m, BI L X.K av0 hd0 H0 av hd σ env H m ∧ Le (hide hd1 H1) (hide hd H) ∧ Post L X.K av0 hd0 H0 hd H D E (forL tg eb (xs.drop i) env m), ⟨xs.length, rfl, Nat.zero_le _, av, hd1, env1, m1, b2, .refl, q⟩, ?_⟩
  rintro i n σ H ⟨rfl, hi, av, hd, env, m, b, le, q⟩
  by_cases hlt : i < xs.length
  · obtain ⟨xi, hx, hdr⟩ := drop_at hlt
    rw [hdr] at q
    unfold forL at q
    cases hb2 : bindT tg xi env with
    | none => rw [hb2] at q; exact q.elim
    | some e' =>
    rw [hb2] at q
    simp only at q
    refine .inr ⟨yl.go _ _ _ _ le (fun z => nomatch z) hx, fun σ H' => i + 1 ≤ xs.length ∧ ∃ av hd env m, BI L X.K av0 hd0 H0 av hd σ env H' m ∧ Le (hide hd1 H1) (hide hd H') ∧ Post L X.K av0 hd0 H0 hd H' D E (forL tg eb (xs.drop (i + 1)) env m), fun σ' H' w => ⟨xs.length - (i + 1), by omega, rfl, w⟩, fun x H' y => ?_⟩
    obtain ⟨yh, yv⟩ := yl.yl _ _ _ _ _ _ le (fun z => nomatch z) b.rm.al hx y
    have g3 : Gr av H H' := by
      rcases yh with rfl | ⟨a, ys, n, rfl⟩
      · exact .refl
      · exact Gr.new n
    have rm3 : RM L.T X.K av hd H' m := by
      rcases yh with rfl | ⟨a, ys, n, rfl⟩
      · exact b.rm
      · exact b.rm.new n
    have b3 := b.go g3 rm3
    have le3 := hide_gr g3 b.rm.sub
    refine hg av hd σ env e' H' H x xi _ rm3.sub b3.re (yv _) hb2 fun σ2 re2 hσ => ?_
    refine hb av0 hd0 H0 av hd σ2 e' H' m _ s0 (b3.tgt hb2 re2 hσ) ?_
    have q := Post.at le3 q
    cases r : eb e' m with
    | nx env2 m2 =>
      rw [r] at q
      exact fun av' hd' σ' H'' b' le' => ⟨hlt, av', hd', env2, m2, b', (le.trans le3).trans le', Post.at le' q⟩
    | rt v m2 => rw [r] at q; exact q
    | ex c p m2 => rw [r] at q; exact q
    | no => rw [r] at q; exact q
  · have e : i = xs.length := by omega
    subst e
    rw [List.drop_length] at q
    exact .inl ⟨yl.sp _ _ _ le (fun z => nomatch z) rfl, q av hd σ H b .refl⟩
theorem ss_rai {G : Glob} {c : Nat → List SV → Mem → R SV} {k n : Nat} {z : Str} {msg : Str} {j : Nat} {p p2 p3 pos : Pos} (C : Cok L G c k (L.ls X.env.scope.names) X (fun cls d _ H => E cls d H)) (h1 : L.cn n = some z) (h2 : glB X.env.scope z = true) :
    SS L X E (fun _ m => .ex n none m) (.Raise (some (.Call (.Name z p) [.Constant (.str msg) j p2] [] p3)) none pos) := by
  intro av0 hd0 H0 av hd σ env H m D s0 b q
  obtain ⟨hg, hdb, _⟩ := gl_of h2
  exact wpS_of (L2N.ps_raise C.calm C.tk (C.lf.rz n z h1 X rfl rfl rfl rfl rfl hg hdb msg j p p2 p3)) (q H none b.gr (b.rm.cut b.ex s0 b.hs) rfl)
end
end Tn

set_option maxRecDepth 100000
set_option maxHeartbeats 1000000
/-! Tn24: several names at once; functions walked. -/
namespace Tn
open PySem PySem.Spec PyProof.Rows L2
def PSl (K : PySem.W.Frag) (fa : Nat → Option Addr) (av hd : List Addr) (H : Hp) (x : V) : SV → Prop
  | .p _ => True
  | v => RSl K fa av hd H x v
def NotIn (a : Addr) (xs : List V) (vs : List SV) : Prop := ∀ (j : Nat) (ds : Ds), vs[j]? = some (SV.own ds) → xs[j]? ≠ some (V.ref a)
inductive PVs (K : PySem.W.Frag) (fa : Nat → Option Addr) (av hd hd' : List Addr) (H : Hp) : List V → List SV → Prop
  | nil : PVs K fa av hd hd' H [] []
  | cons {x : V} {xs : List V} {v : SV} {vs : List SV} : PSl K fa av hd' H x v → (∀ (ds : Ds) (a : Addr), v = .own ds → x = V.ref a → a ∉ hd ∧ NotIn a xs vs) → PVs K fa av hd hd' H xs vs → PVs K fa av hd hd' H (x :: xs) (v :: vs)
def SH (L : Link) (X : Cx) (W : WX) (ev : EnvT → Mem → R (List SV)) (srcs : List Expr) : Prop := ∀ (av hd : List Addr) (σ : L2.St) (env : EnvT) (H : Hp) (m : Mem) (Q : List V → Hp → Prop), RM L.T X.K av hd H m → REn X.K L.fa av hd H σ env →
  Good L X.K av hd H (fun cls d H' => W cls d σ H') (ev env m) (fun vs m' H' => ∀ hd' xs, (∀ b ∈ hd, b ∈ hd') → (∀ b ∈ hd', b ∉ hd → H b = none) → Le (hide hd H) (hide hd' H') → RM L.T X.K av hd' H' m' → REn X.K L.fa av hd' H' σ env → PVs X.K L.fa av hd hd' H' xs vs → Gr av H H' → Q xs H') → wpA X srcs σ H Q
section
variable {L : Link} {X : Cx} {W : WX} {K : PySem.W.Frag} {E : XK} {av0 hd0 av hd hd' : List Addr} {H0 H H1 H2 : Hp} {σ σ' : L2.St} {env env' : EnvT} {m m1 : Mem} {D : Ends} {o : O} {x y : V} {v : SV} {fa : Nat → Option Addr}
theorem NotIn.tail {a : Addr} {xs : List V} {vs : List SV} (h : NotIn a (x :: xs) (v :: vs)) : NotIn a xs vs := fun j ds e => by
  have := h (j + 1) ds (by simpa using e)
  simpa using this
theorem PVs.notin {xs : List V} {vs : List SV} (h : PVs K fa av hd hd' H xs vs) {a : Addr} (ha : a ∈ hd) : NotIn a xs vs := by
  induction h with
  | nil => intro j ds e; simp at e
  | cons h1 h2 h3 ih =>
    intro j ds e e2
    cases j with
    | zero =>
      simp at e e2
      exact (h2 ds a e e2).1 ha
    | succ j => exact ih j ds (by simpa using e) (by simpa using e2)
theorem PVs.up {a : Addr} {xs : List V} {vs : List SV} (h : PVs K fa av (a :: hd) hd' H xs vs) : PVs K fa av hd hd' H xs vs := by
  induction h with
  | nil => exact .nil
  | cons h1 h2 h3 ih => exact .cons h1 (fun ds c e1 e2 => ⟨fun z => (h2 ds c e1 e2).1 (List.mem_cons_of_mem _ z), (h2 ds c e1 e2).2⟩) ih
theorem Good.un {α : Type} {r : R α} {W' : XK} {k : α → Mem → Hp → Prop} {a : Addr} (s : ∀ b ∈ av, b ∈ hd) (g : Good L K av hd H W' r k) : Good L K av (a :: hd) H W' r k := by
  cases r with
  | ok v m => exact fun H' g1 rm => g H' g1 (rm.un s)
  | ex c p m => exact fun H' d g1 rm => g H' d g1 (rm.un s)
  | no => exact g
theorem sh_nil : SH L X W (fun _ m => .ok [] m) [] := fun av hd σ env H m Q rm re g => wpA_of pa_nil (g H .refl rm hd [] (fun _ h => h) (fun b h n => absurd h n) .refl rm re .nil .refl)
theorem sh_cons {ea : EnvT → Mem → R SV} {er : EnvT → Mem → R (List SV)} {a : Expr} {r : List Expr} (hs : sh a = true) (ha : SE L X W ea a) (hr : SH L X W er r) :
    SH L X W (fun env m => (ea env m).bind fun v m => (er env m).bind fun vs m => .ok (v :: vs) m) (a :: r) := by
  intro av hd σ env H m Q rm re g
  refine wpA_of (pa_cons pe_w pa_w (star_ok hs)) (ha av hd σ env H m _ rm re (g.bind fun v m1 H1 _ g1 rm1 k1 x rx => ?_))
  have plain : PSl X.K L.fa av hd H1 x v → (∀ ds, v ≠ .own ds) → wpA X r σ H1 (fun vs H2 => Q (x :: vs) H2) := fun ps hv => by
    refine hr av hd σ env H1 m1 _ rm1 (re.gr g1 rm.sub) (k1.bind fun vs m2 H2 _ g2 rm2 k2 hd' xs h1 h2 h3 h4 h5 h6 h7 => ?_)
    refine k2 H2 .refl rm2 hd' (x :: xs) h1 (fun b hb n => g1.free (h2 b hb n)) ((hide_gr g1 rm.sub).trans h3) h4 h5 (.cons ?_ (fun ds c e => absurd e (hv ds)) h6) (g1.trans h7)
    cases v with
    | own ds => exact absurd rfl (hv ds)
    | p ds => trivial
    | d y => exact Rp.le ps h3
    | h k => exact ps
    | f n => exact ps
    | s ns =>
      obtain ⟨c, rfl, q⟩ := ps
      exact ⟨c, rfl, sqL_le h3 q⟩
  cases v with
  | own ds =>
    obtain ⟨a, zs, rfl, n0, nh, e, rr⟩ := rx
    have na : a ∉ av := fun z => nh (rm.sub a z)
    have rmh : RM L.T X.K av (a :: hd) H1 m1 := rm1.wd (fun c hc => List.mem_cons_of_mem _ hc) fun c hc => by
      rcases List.mem_cons.mp hc with rfl | hc
      · rw [e]; exact fun z => nomatch z
      · exact rm1.al c hc
    refine hr av (a :: hd) σ env H1 m1 _ rmh (re.new g1 rm.sub n0) (Good.un rm.sub (k1.bind fun vs m2 H2 _ g2 rm2 k2 hd' xs h1 h2 h3 h4 h5 h6 h7 => ?_))
    refine k2 H2 .refl rm2 hd' (V.ref a :: xs) (fun b hb => h1 b (List.mem_cons_of_mem _ hb)) (fun b hb n => ?_) ((hide_new g1 rm.sub n0).trans h3) h4 h5 (.cons ⟨a, zs, rfl, h1 a List.mem_cons_self, na, h7.st _ _ e na noT_lst, rr.le h3⟩ (fun us c e1 e2 => ?_) h6.up) (g1.trans h7)
    · by_cases z : b = a
      · rw [z]; exact n0
      · exact g1.free (h2 b hb fun h => (List.mem_cons.mp h).elim z n)
    · cases e2
      exact ⟨nh, h6.notin List.mem_cons_self⟩
  | p ds => exact plain trivial (fun _ => SV.noConfusion)
  | d y => exact plain rx (fun _ => SV.noConfusion)
  | h k => exact plain rx (fun _ => SV.noConfusion)
  | f n => exact plain rx (fun _ => SV.noConfusion)
  | s ns => exact plain rx (fun _ => SV.noConfusion)
theorem pend_set (s0 : ∀ b ∈ hd0, b ∈ hd) : ∀ {is : List Nat} {xs : List V} {vs : List SV} {σ : L2.St} {env env' : EnvT}, BI L K av0 hd0 H0 av hd' σ env H m → PVs K L.fa av hd hd' H xs vs →
    (∀ (j : Nat) (ds : Ds) (a : Addr), env[j]? = some (some (SV.own ds)) → σ[j]? = some (some (V.ref a)) → NotIn a xs vs) → setAll is vs env = some env' → BI L K av0 hd0 H0 av hd' (stL σ (is.zip xs)) env' H m ∧ is.length = xs.length
  | [], _, _, σ, env, env', b, p, _, h => by
    cases p with
    | nil => cases h; exact ⟨b, rfl⟩
    | cons => cases h
  | i :: is, _, _, σ, env, env', b, p, hq, h => by
    cases p with
    | nil => cases h
    | cons h1 h2 h3 =>
      rename_i x xs v vs
      unfold setAll at h
      cases hs : slotV v with
      | none => rw [hs] at h; cases h
      | some w =>
        rw [hs] at h
        obtain ⟨rfl, hp⟩ := slotV_ok hs
        simp only at h
        split at h
        · rename_i hi
          have go : BI L K av0 hd0 H0 av hd' (σ.set i (some x)) (env.set i (some w)) H m → (∀ (j : Nat) (ds : Ds) (a : Addr), (env.set i (some w))[j]? = some (some (SV.own ds)) → (σ.set i (some x))[j]? = some (some (V.ref a)) → NotIn a xs vs) → _ := fun b1 hq1 => by
            obtain ⟨r1, r2⟩ := pend_set s0 b1 h3 hq1 h
            exact (⟨r1, by simp [r2]⟩ : BI L K av0 hd0 H0 av hd' (stL σ ((i :: is).zip (x :: xs))) env' H m ∧ (i :: is).length = (x :: xs).length)
          have hq1 : ∀ (j : Nat) (ds : Ds) (a : Addr), (env.set i (some w))[j]? = some (some (SV.own ds)) → (σ.set i (some x))[j]? = some (some (V.ref a)) → NotIn a xs vs := fun j ds a e1 e2 => by
            rcases set_own2 e1 with ⟨rfl, e⟩ | ⟨n1, e⟩
            · exact (h2 ds a e (set_refs e2)).2
            · exact (hq j ds a e (set_ref n1 e2)).tail
          refine go ?_ hq1
          cases w with
          | own ds =>
            obtain ⟨a, zs, rfl, q1, q2, q3, q4⟩ := h1
            refine b.setO ⟨a, zs, rfl, q1, q2, q3, q4⟩ hi (fun z => (h2 ds a rfl rfl).1 (s0 a z)) fun j y e1 e2 => ?_
            exact hq j y a e1 e2 0 ds (by simp) (by simp)
          | p ds => exact absurd rfl (hp ds)
          | d y => exact b.setP (fun _ => SV.noConfusion) h1 hi
          | h k => exact b.setP (fun _ => SV.noConfusion) h1 hi
          | f n => exact b.setP (fun _ => SV.noConfusion) h1 hi
          | s ns => exact b.setP (fun _ => SV.noConfusion) h1 hi
        · cases h
def apsF (is : List Nat) (es : EnvT → Mem → R (List SV)) : EnvT → Mem → O := fun env m => .of (es env m) fun vs m => match setAll is vs env with
    | some e' => .nx e' m
    | none => .no
/-- what all ways of storing come to -/
theorem aps_read {is : List Nat} {es : EnvT → Mem → R (List SV)} {srcs : List Expr} (ha : SH L X (fun cls d _ H => E cls d H) es srcs) (s0 : ∀ b ∈ av0, b ∈ hd0) (b : BI L X.K av0 hd0 H0 av hd σ env H m)
    (q : Post L X.K av0 hd0 H0 hd H D E (apsF is es env m)) : wpA X srcs σ H (fun xs H1 => is.length = xs.length ∧ D.nx (stL σ (is.zip xs)) H1 ∧ ∀ p, H1 p = none → D.nx (stL σ (is.zip xs)) (upd H1 p (.tup xs))) := by
  refine ha av hd σ env H m _ b.rm b.re ((Post.of b s0 q).imp fun vs m1 H1 _ g1 rm1 q hd' xs h1 h2 h3 h4 h5 h6 h7 => ?_)
  obtain ⟨_, _, q⟩ := q
  cases hs : setAll is vs env with
  | none => rw [hs] at q; exact q.elim
  | some e' =>
    rw [hs] at q
    have b1 : BI L X.K av0 hd0 H0 av hd' σ env H1 m1 := ⟨h4, h5, b.ex, fun c hc => h1 c (b.hs c hc), fun c hc n => by
      by_cases z : c ∈ hd
      · exact b.hn c z n
      · exact b.gr.free (h2 c hc z), Gr.ext b.ex b.gr h7, b.ds, b.nh⟩
    obtain ⟨b2, hl⟩ := pend_set b.hs b1 h6 (fun j ds a e1 e2 => h6.notin (b.own_in e1 e2)) hs
    refine ⟨hl, q av hd' _ H1 b2 h3, fun p n => q av hd' _ _ (b2.go (Gr.new n) (b2.rm.new n)) (h3.trans (hide_gr (Gr.new n) b2.rm.sub))⟩
/-- the order of the stores -/
def swB (ts vs : List Expr) (sc : Scope) : Option (Option (List Str)) :=
  if (!(ts.length == 2 || ts.length == 3) || vs.length != ts.length) = true then some none else
  if (vs.any fun | .Starred .. => true | _ => false) = true then some none else
  let line := (ts.head?.map (·.pos.line)).getD 0
  let names := ts.filterMap fun
    | .Name id pos => if sc.names.lookup id == some .local && pos.line == line then some id else none
    | _ => none
  if (names.length != ts.length || names.eraseDups.length != names.length) = true then some none else
  if vs.all (foldedForSure 8) = true then some none else
  if vs.all (constantsAlone 8) = true then none else some (some names)
theorem swB_ok {ts vs : List Expr} {k k2 : Nat} {tp vp : Pos} {env : Env} {r : Option (List Str)} (hk : env.scope.kind = .function) (h : swB ts vs env.scope = some r) : swappedStores [.Tuple ts k tp] (.Tuple vs k2 vp) env = pure r := by
  have hb : (env.blockKind != .function) = false := by
    have : env.blockKind = .function := by unfold Env.blockKind; rw [hk]; rfl
    rw [this]; rfl
  unfold swappedStores
  unfold swB at h
  have hkk : ∀ z, env.kindOf z = env.scope.names.lookup z := fun _ => rfl
  simp only [hb, Bool.or_false, hkk] at h ⊢
  split at h
  · cases h
    rename_i hc
    rw [if_pos hc]
  rename_i c1
  rw [if_neg c1]
  split at h
  · cases h
    rename_i hc
    exact if_pos hc
  rename_i c2
  refine (if_neg c2).trans ?_
  split at h
  · cases h
    rename_i hc
    exact if_pos hc
  rename_i c3
  refine (if_neg c3).trans ?_
  split at h
  · cases h
    rename_i hc
    exact if_pos hc
  rename_i c4
  refine (if_neg c4).trans ?_
  split at h
  · cases h
  · rename_i c5
    cases h
    exact if_neg c5
theorem wpA_mono {es : List Expr} {P P' : List V → Hp → Prop} (hP : ∀ z H', P z H' → P' z H') (h : wpA X es σ H P) : wpA X es σ H P' := fun pos pins s I => thn (h pos pins s I) fun u s1 h1 => by
  obtain ⟨x, H1, I1, r1, q1⟩ := h1
  exact ⟨x, H1, I1, r1, hP _ _ q1⟩
theorem ss_asgsT {is : List Nat} {ts vs : List Expr} {es : EnvT → Mem → R (List SV)} {k k2 : Nat} {tp vp pos : Pos} (hk : X.env.scope.kind = .function) (hc : X.calm = true) (hN : X.N.Nodup) (hf : ∀ z, X.env.scope.names.lookup z = some .cell → X.fn z = true)
    (hl : is.length = ts.length) (h20 : is.length ≤ 20) (ht : ((is.zip ts).all fun p => tgB false X.N X.env.scope is (.one p.1) p.2) = true) (hw : swB ts vs X.env.scope = some none) (ha : SH L X (fun cls d _ H => E cls d H) es vs) :
    SS L X E (apsF is es) (.Assign [.Tuple ts k tp] (.Tuple vs k2 vp) pos) := by
  intro av0 hd0 H0 av hd σ env H m D s0 b q
  refine wpS_of (ps_asg (pe_tup pa_w) pg_w swT (swB_ok hk hw) rfl) ?_
  refine wpA_mono (fun xs H1 h => ?_) (aps_read ha s0 b q)
  obtain ⟨h1, h2, h3⟩ := h
  refine ⟨Nat.le_trans (by rw [← h1]; exact h20) (by decide), fun p n => ?_⟩
  obtain ⟨t, b1, b2, b3, b4⟩ := sg_names (Q := D.nx) hN (fun _ z _ => hf z) hl ht (σ := σ) (H := upd H1 p (.tup xs)) h1.symm (h3 p n)
  exact wpG_of (pg_tup hc b1 b3 b4) ⟨p, xs, rfl, .of upd_same, by rw [← h1, hl], b2⟩
theorem sto_loc {own : List Nat} {i : Nat} {e : Expr} (h : tgB true X.N X.env.scope own (.one i) e = true) : ∃ z p, e = .Name z p ∧ X.N[i]? = some z ∧ X.env.scope.names.lookup z = some .local := by
  cases e with
  | Name z p =>
    unfold tgB at h
    simp only [Bool.and_eq_true, Bool.or_eq_true, decide_eq_true_eq, Bool.not_true, Bool.false_and, or_false] at h
    exact ⟨z, p, rfl, (vis_of h.1.1).1, h.2.resolve_right (fun z => by simp at z)⟩
  | _ => simp [tgB] at h
theorem ss_asgs2 {i j : Nat} {t1 t2 a b : Expr} {es : EnvT → Mem → R (List SV)} {k k2 : Nat} {tp vp pos : Pos} (hk : X.env.scope.kind = .function) (hc : X.calm = true) (hN : X.N.Nodup) (hij : i ≠ j)
    (h1 : tgB true X.N X.env.scope [i, j] (.one i) t1 = true) (h2 : tgB true X.N X.env.scope [i, j] (.one j) t2 = true) (hw : swB [t1, t2] [a, b] X.env.scope = some (some [nmOf t1, nmOf t2])) (ha : SH L X (fun cls d _ H => E cls d H) es [a, b]) :
    SS L X E (apsF [i, j] es) (.Assign [.Tuple [t1, t2] k tp] (.Tuple [a, b] k2 vp) pos) := by
  intro av0 hd0 H0 av hd σ env H m D s0 bi q
  obtain ⟨x, px, rfl, e1, e2⟩ := sto_loc h1
  obtain ⟨y, py, rfl, e3, e4⟩ := sto_loc h2
  refine wpS_of (ps_par hc hN e1 e3 hij e2 e4 pa_w (swB_ok hk hw) swT) (wpA_mono (fun xs H1 h => ?_) (aps_read ha s0 bi q))
  obtain ⟨h1, h2, h3⟩ := h
  match xs, h1, h2 with
  | [v, w], _, h2 => exact ⟨v, w, rfl, h2⟩
theorem ss_asgs3 {i j l : Nat} {t1 t2 t3 a b c : Expr} {es : EnvT → Mem → R (List SV)} {k k2 : Nat} {tp vp pos : Pos} (hk : X.env.scope.kind = .function) (hc : X.calm = true) (hN : X.N.Nodup) (hij : i ≠ j) (hil : i ≠ l) (hjl : j ≠ l)
    (h1 : tgB true X.N X.env.scope [i, j, l] (.one i) t1 = true) (h2 : tgB true X.N X.env.scope [i, j, l] (.one j) t2 = true) (h3 : tgB true X.N X.env.scope [i, j, l] (.one l) t3 = true) (hw : swB [t1, t2, t3] [a, b, c] X.env.scope = some (some [nmOf t1, nmOf t2, nmOf t3])) (ha : SH L X (fun cls d _ H => E cls d H) es [a, b, c]) :
    SS L X E (apsF [i, j, l] es) (.Assign [.Tuple [t1, t2, t3] k tp] (.Tuple [a, b, c] k2 vp) pos) := by
  intro av0 hd0 H0 av hd σ env H m D s0 bi q
  obtain ⟨x, px, rfl, e1, e2⟩ := sto_loc h1
  obtain ⟨y, py, rfl, e3, e4⟩ := sto_loc h2
  obtain ⟨z, pz, rfl, e5, e6⟩ := sto_loc h3
  refine wpS_of (ps_par3 hc hN e1 e3 e5 hij hil hjl e2 e4 e6 pa_w (swB_ok hk hw) swT) (wpA_mono (fun xs H1 h => ?_) (aps_read ha s0 bi q))
  obtain ⟨h1, h2, h3⟩ := h
  match xs, h1, h2 with
  | [u, v, w], _, h2 => exact ⟨u, v, w, rfl, h2⟩
/-! ### functions walked -/
theorem sa_fns {G : Glob} {c : Nat → List SV → Mem → R SV} {k : Nat} {lb : Bool} (C : Cok L G c k lb X W) : ∀ {ns : List Nat} {vs : List Expr}, (ns.length == vs.length && (ns.zip vs).all fun p => match p.2 with
    | .Name x _ => decide (L.nm p.1 = some x) && glB X.env.scope x
    | _ => false) = true → SA L X W (fun _ m => .ok (ns.map .f) m) vs
  | [], vs, h => by
    simp only [Bool.and_eq_true, beq_iff_eq] at h
    have : vs = [] := List.eq_nil_of_length_eq_zero h.1.symm
    subst this
    exact sa_nil
  | n :: ns, [], h => by simp at h
  | n :: ns, v :: vs, h => by
    rw [List.zip_cons_cons, List.all_cons] at h
    simp only [Bool.and_eq_true, beq_iff_eq, List.length_cons, Nat.add_right_cancel_iff] at h
    obtain ⟨h1, h2, h3⟩ := h
    have ih : SA L X W (fun _ m => .ok (ns.map .f) m) vs := sa_fns C (by simp only [Bool.and_eq_true, beq_iff_eq]; exact ⟨h1, h3⟩)
    cases v with
    | Name x p =>
      simp only [Bool.and_eq_true, decide_eq_true_eq] at h2
      exact sa_cons (a := .Name x p) rfl (se_fnr (G := G) (c := c) C h2.1 h2.2) ih
    | _ => simp at h2
theorem yl_fns {T : Addr} {xs : List V} {ns : List Nat} (h : SqT K (hide hd H1) T xs) (hx : ∀ (av' hd' : List Addr) (H' : Hp), RVs K fa av' hd' H' H' xs (ns.map .f)) : Ylds K fa av hd H1 pk (Itt K T) (ns.map .f) := by
  have hl : xs.length = ns.length := by
    have : ∀ {xs : List V} {vs : List SV}, RVs K fa [] [] H1 H1 xs vs → xs.length = vs.length := fun h => by
      induction h with
      | nil => rfl
      | cons _ _ ih => simp [ih]
    have := this (hx [] [] H1)
    simpa using this
  have hget : ∀ {xs : List V} {vs : List SV} {av' hd' : List Addr} {H' : Hp} {i : Nat} {v : SV}, RVs K fa av' hd' H' H' xs vs → vs[i]? = some v → ∃ x, xs[i]? = some x ∧ RV K fa av' hd' H' H' x v := fun {xs vs av' hd' H' i v} h => by
    induction h generalizing i with
    | nil => intro e; simp at e
    | cons h1 _ ih =>
      intro e
      cases i with
      | zero => simp at e; subst e; exact ⟨_, rfl, h1⟩
      | succ i => exact ih (by simpa using e)
  refine ⟨fun hd' H' i v le g e => ?_, fun hd' H' i v x H3 le g al e y => ?_, fun hd' H' i le g n0 => ?_⟩
  · obtain ⟨z, e2, _⟩ := hget (hx [] [] H1) e
    exact ⟨xs, z, sqT_le hide_le (sqT_le le h), e2⟩
  · obtain ⟨rfl, y⟩ := y
    have y := y xs (sqT_le hide_le (sqT_le le h))
    refine ⟨.inl rfl, fun av' => ?_⟩
    obtain ⟨z, e2, r⟩ := hget (hx av' hd' H3) e
    rw [y] at e2; cases e2
    exact r
  · have n := Nat.le_of_eq n0
    refine ⟨xs, sqT_le hide_le (sqT_le le h), ?_⟩
    rw [List.length_map] at n
    rw [hl]; exact n
theorem si_fns {G : Glob} {c : Nat → List SV → Mem → R SV} {k : Nat} {lb : Bool} {pk : Bool} (C : Cok L G c k lb X W) {ns : List Nat} {vs : List Expr} {kk : Nat} {tg : Expr} {pos : Pos} (h20 : ns.length ≤ 1000) (h : (ns.length == vs.length && (ns.zip vs).all fun p => match p.2 with
    | .Name x _ => decide (L.nm p.1 = some x) && glB X.env.scope x
    | _ => false) = true) : SI L X W pk (fun _ m => .ok (ns.map .f) m) tg (.Tuple vs kk pos) := by
  intro av hd σ env H m Q rm re g
  refine wpI_of (pi_seq (pe_tup pa_w)) (sa_fns C h av hd σ env H m _ rm re fun H1 g1 rm1 xs rx => ?_)
  have hl : xs.length ≤ 1000 := by
    have : ∀ {xs : List V} {vs : List SV}, RVs X.K L.fa av hd H H1 xs vs → xs.length = vs.length := fun h => by
      induction h with
      | nil => rfl
      | cons _ _ ih => simp [ih]
    rw [this rx, List.length_map]; exact h20
  refine ⟨Nat.le_trans hl (by decide), fun p n => ⟨p, rfl, .inr ⟨⟨xs, .of upd_same⟩, g _ (g1.trans (Gr.new n)) (rm1.new n) _ (yl_fns (.of (by rw [hide_out (rm1.nw n)]; exact upd_same)) fun av' hd' H' => ?_)⟩⟩⟩
  have all : ∀ (ns : List Nat) {xs : List V}, RVs X.K L.fa av hd H H1 xs (ns.map .f) → RVs X.K L.fa av' hd' H' H' xs (ns.map .f) := fun ns => by
    induction ns with
    | nil => intro xs h; cases h; exact .nil
    | cons n ns ih =>
      intro xs h
      cases h with
      | cons h1 h2 => exact .cons h1 (ih h2)
  exact all ns rx
end
end Tn

set_option maxRecDepth 100000
set_option maxHeartbeats 2000000
/-! Tn25: the checker is sound: expressions. -/
namespace Tn
open PySem PySem.Spec PyProof.Rows L2
def Sos (L : Link) (X : Cx) (W : WX) (ev : EnvT → Mem → R SV) (t : Bool) (src : Expr) : Prop := SE L X W ev src ∧ (t = true → STs L X W ev src) ∧ (X.env.scope.kind = .function → SAs L X W ev src)
structure SosL (L : Link) (X : Cx) (W : WX) (ev : EnvT → Mem → R (List SV)) (ea eo : EnvT → Mem → R SV) (et : EnvT → Mem → R Bool) (t : Bool) (vs : List Expr) : Prop where
  sa : vs.all sh = true → SA L X W ev vs
  sh : vs.all sh = true → SH L X W ev vs
  an : vs ≠ [] → ∀ pos, SE L X W ea (.BoolOp .And vs pos)
  or : vs ≠ [] → ∀ pos, SE L X W eo (.BoolOp .Or vs pos)
  wa : vs ≠ [] → t = true → ∀ pos, SW L X W ea (.BoolOp .And vs pos)
  wo : vs ≠ [] → t = true → ∀ pos, SW L X W eo (.BoolOp .Or vs pos)
  tt : vs.length ≤ 1 → t = true → STT L X W et vs
section
variable {L : Link} {G : Glob} {c : Nat → List SV → Mem → R SV} {k : Nat} {lb : Bool} {X : Cx} {W : WX}
def plainA : Expr → Bool
  | .ListComp .. => false
  | .SetComp .. => false
  | .DictComp .. => false
  | _ => true
theorem plainA_ok {e : Expr} (h : plainA e = true) : ∀ z p l, swapsWith e (some (.Name z p)) l X.env = pure false := by
  intro z p l
  cases e <;> first | rfl | (simp [plainA] at h)
theorem sos_plain {ev : EnvT → Mem → R SV} {t : Bool} {src : Expr} (hN : X.N.Nodup) (h : SE L X W ev src) (hp : plainT src = true) (ha : plainA src = true) : Sos L X W ev t src :=
  ⟨h, fun _ => st_plain h hp, fun _ => sas_of hN (plainA_ok ha) h⟩
theorem sos_test {ev : EnvT → Mem → R SV} {t : Bool} {src : Expr} (hN : X.N.Nodup) (h : SE L X W ev src) (ht : t = true → STs L X W ev src) (ha : plainA src = true) : Sos L X W ev t src :=
  ⟨h, ht, fun _ => sas_of hN (plainA_ok ha) h⟩
theorem ne_nil {α : Type} {l : List α} (h : l.isEmpty = false) : l ≠ [] := fun z => by rw [z] at h; cases h
theorem own_map {N : List Str} : ∀ {own : List Nat}, own.all (fun i => decide (i < N.length)) = true → (own.filterMap fun i => (N[i]?).map fun x => (x, i)).map (·.2) = own
  | [], _ => rfl
  | i :: r, h => by
    simp only [List.all_cons, Bool.and_eq_true, decide_eq_true_eq] at h
    rw [List.filterMap_cons, List.getElem?_eq_getElem h.1]
    show i :: _ = _
    rw [own_map h.2]
theorem cok_blk {scope : Scope} (C : Cok L G c k lb X W) (s : Shared) (H : Hp) (D : Addr) (cl : List (Str × Addr)) (fp : List Addr) : Cok L G c k lb (ctx X scope s H D cl fp) W0 :=
  ⟨C.lf, C.calm, C.nd, C.room, fun u s' x => by
    obtain ⟨_, _, _, _, _, _, _, _, _, _, _, _, _, _, _, _, z⟩ := x
    exact z.elim, fun z => ⟨(C.lam z).1, (C.lam z).2⟩⟩
theorem tgC_fn {scope : Scope} {tg : Expr} (h : tgC scope tg = true) {s : Shared} {H : Hp} {D : Addr} {cl : List (Str × Addr)} {fp : List Addr} : ∀ z ∈ tgNames tg, (ctx X scope s H D cl fp).env.scope.names.lookup z = some .cell → (ctx X scope s H D cl fp).fn z = true := fun z hz hl => by
  have := List.all_eq_true.mp h z hz
  simp only [Bool.or_eq_true, decide_eq_true_eq] at this
  show (scope.names.lookup z == some .cell) = true
  rcases this with h1 | h1
  · have h2 := lookup_relS_keep (sc := X.env.scope) (fun q => NameKind.noConfusion q) h1
    have h3 : (relS scope X.env.scope).names.lookup z = some .cell := hl
    have h4 : (relS scope X.env.scope).names.lookup z = some .local := h2
    rw [h3] at h4; cases h4
  · rw [h1]; rfl
theorem fold_it {lb : Bool} {N : List Str} {sc : Scope} {it : It} {src tg : Expr} (h : ckI L.toNms lb N sc it src tg = true) (env : Env) (x : Value) : foldedSetIterable src env x = pure x := by
  cases it with
  | dat e =>
    unfold ckI at h
    simp only [Bool.and_eq_true] at h
    exact folded_ok h.1 x
  | _ =>
    unfold ckI at h
    split at h
    · rfl
    · cases h
theorem rm_made {T : List (Addr × Str)} {K : PySem.W.Frag} {av hd : List Addr} {H G' : Hp} {m : Mem} (rm : RM T K av hd H m) (md : TnH.Made T H G') : RM T K av hd G' m :=
  ⟨rm.len, rm.nd, rm.sub, fun k a o h1 h2 => by
    have q := rm.mo k a o h1 h2
    cases o with
    | nums ns =>
      have q' : H a = some (.lst (ns.map V.int)) := q
      exact md.ext _ _ q' fun _ => HO.noConfusion, md.tab, fun b hb => md.al b (rm.al b hb)⟩
theorem rm_ext {T : List (Addr × Str)} {K : PySem.W.Frag} {av hd : List Addr} {H G' : Hp} {m : Mem} (rm : RM T K av hd H m) (e : ∀ b o, H b = some o → G' b = some o) : RM T K av hd G' m :=
  ⟨rm.len, rm.nd, rm.sub, fun k a o h1 h2 => by
    have q := rm.mo k a o h1 h2
    cases o with
    | nums ns =>
      have q' : H a = some (.lst (ns.map V.int)) := q
      exact e _ _ q', rm.tab.ext e, fun b hb z => by
    cases q : H b with
    | none => exact rm.al b hb q
    | some o => rw [e _ _ q] at z; cases z⟩
theorem gr_ext {av : List Addr} {H G' : Hp} (e : ∀ b o, H b = some o → G' b = some o) : Gr av H G' := ⟨fun b o h _ _ => e b o h, fun b h z => by
  cases q : H b with
  | none => exact h q
  | some o => rw [e _ _ q] at z; cases z⟩
theorem cok_lam {scope : Scope} (C : Cok L G c k lb X W) (A : Around) (outer : List Env) (s : Shared) (H : Hp) (E : XK) (f d : Addr) (hr : Room (k + 4) (A.deeper (LamX.lamEnv X scope s.heap.objs.size f d))) : Cok L G c k false (TnH.lamN X A outer s H E scope f d) (fun cls q _ H' => E cls q H') :=
  ⟨C.lf, rfl, C.nd, hr, L2N.takes_of rfl rfl rfl rfl, fun z => by cases z⟩
theorem se_ler {ev : EnvT → Mem → R SV} {z : Str} {bd : Expr} {scope : Scope} {p lpos pos : Pos} (C : Cok L G c k true X W) (hz : L.le = some z) (hg : glB X.env.scope z = true) (hS : LamX.lamSB X.env.scope scope = true)
    (hb : ∀ (A : Around) (outer : List Env) (s : Shared) (H : Hp) (E : XK) (f d : Addr), Room (k + 4) (A.deeper (LamX.lamEnv X scope s.heap.objs.size f d)) → SE L (TnH.lamN X A outer s H E scope f d) (fun cls q _ H' => E cls q H') ev bd) :
    SE L X W (fun env m => match ev env m with | .ok _ m => .ok (.d (.str ⟨#[]⟩)) m | .ex k none m => (match G.er k with | some z => .ok (.d (.str z)) m | none => .no) | _ => .no) (.Call (.Name z p) [.Lambda TnH.noArgs bd scope lpos] [] pos) := by
  intro av hd σ env H m Q rm re g
  obtain ⟨g1, g2, _⟩ := gl_of hg
  obtain ⟨la, hr⟩ := C.lam rfl
  refine wp_of (C.lf.le z hz X bd scope (fun E σ H Q => ∃ av hd env m, RM L.T X.K av hd H m ∧ REn X.K L.fa av hd H σ env ∧ Good L X.K av hd H E (ev env m) (fun v _ H' => ∀ x, RV X.K L.fa av hd H H' x v → Q x H')) p lpos pos rfl rfl rfl rfl rfl g1 g2 la hr (LamX.lamS_by hS) (fun A outer s H E f d hr2 => ⟨fun pins s' σ' H' Q' I h => ?_⟩) fun E E' σ H Q hE h => ?_) ⟨rm.tab, fun G' md => ?_⟩
  · obtain ⟨av, hd, env, m, rm, re, g⟩ := h
    exact hb A outer s H E f d hr2 av hd σ' env H' m Q' rm re g pins s' I
  · obtain ⟨av, hd, env, m, rm, re, g⟩ := h
    refine ⟨av, hd, env, m, rm, re, ?_⟩
    revert g
    rcases ev env m with ⟨v, m1⟩ | ⟨kk, p, m1⟩ | _
    · exact fun g => g
    · exact fun g H' d g1 rm1 xp => hE _ _ _ (g H' d g1 rm1 xp)
    · exact fun g => g
  · have gr : Gr av H G' := ⟨fun b o e _ nt => md.ext b o e nt, md.al⟩
    refine ⟨av, hd, env, m, rm_made rm md, re.gr gr rm.sub, ?_⟩
    revert g
    dsimp only
    rcases ev env m with ⟨v, m1⟩ | ⟨kk, p, m1⟩ | _
    · intro g H' g3 rm3 x _
      exact g H' (gr.trans g3) rm3 (.str ⟨#[]⟩) ⟨.str _, rfl⟩
    · cases p with
      | none =>
        intro g H' d g3 rm3 xp
        cases hq : G.er kk with
        | none => simp only [hq] at g; exact g.elim
        | some w =>
          simp only [hq] at g
          exact ⟨kk, w, rfl, xp, hq, fun G2 e2 => g G2 ((gr.trans g3).trans (gr_ext e2)) (rm_ext rm3 e2) (.str w) ⟨.str _, C.lf.ea _ _ hq⟩⟩
      | some i =>
        intro g
        exact g.elim
    · intro g
      exact g.elim
mutual
theorem snd_e : ∀ (e : E) {lb : Bool} {X : Cx} {W : WX} {src : Expr}, Cok L G c k lb X W → ckE L.toNms lb X.N X.env.scope e src = true → Sos L X W (evE G c e) (tst e) src
  | .var i, lb, X, W, src, C, h => by
    unfold ckE at h
    split at h
    · exact sos_plain C.nd (se_var h) rfl rfl
    · cases h
  | .cst x, lb, X, W, src, C, h => by
    unfold ckE at h
    split at h
    · exact sos_plain C.nd (se_cst h) rfl rfl
    · cases h
  | .glo g, lb, X, W, src, C, h => by
    unfold ckE at h
    split at h
    · simp only [Bool.and_eq_true, decide_eq_true_eq] at h
      exact sos_plain C.nd (se_glo C h.1 h.2) rfl rfl
    · cases h
  | .fnr n, lb, X, W, src, C, h => by
    unfold ckE at h
    split at h
    · simp only [Bool.and_eq_true, decide_eq_true_eq] at h
      exact sos_plain C.nd (se_fnr C h.1 h.2) rfl rfl
    · cases h
  | .pow a b, lb, X, W, src, C, h => by
    unfold ckE at h
    split at h
    · simp only [Bool.and_eq_true, decide_eq_true_eq, beq_iff_eq] at h
      obtain ⟨⟨⟨rfl, rfl⟩, h1⟩, h2⟩ := h
      exact sos_plain C.nd (se_pow h1 h2) rfl rfl
    · cases h
  | .bin o a b, lb, X, W, src, C, h => by
    unfold ckE at h
    split at h
    · simp only [Bool.and_eq_true, decide_eq_true_eq] at h
      obtain ⟨⟨rfl, h1⟩, h2⟩ := h
      exact sos_plain C.nd (se_bin (snd_e a C h1).1 (snd_e b C h2).1) rfl rfl
    · cases h
  | .neg a, lb, X, W, src, C, h => by
    unfold ckE at h
    split at h
    · exact sos_plain C.nd (se_neg (snd_e a C h).1) rfl rfl
    · cases h
  | .cmp o a b, lb, X, W, src, C, h => by
    unfold ckE at h
    split at h
    · simp only [Bool.and_eq_true, decide_eq_true_eq] at h
      obtain ⟨⟨⟨⟨rfl, h1⟩, h2⟩, h3⟩, _⟩ := h
      exact sos_test C.nd (se_cmp C.hu h3 (snd_e a C h1).1 (snd_e b C h2).1) (fun _ => st_cmp C.hu h3 (snd_e a C h1).1 (snd_e b C h2).1) rfl
    · cases h
  | .chn a o b o2 e3, lb, X, W, src, C, h => by
    unfold ckE at h
    split at h
    · simp only [Bool.and_eq_true, decide_eq_true_eq] at h
      obtain ⟨⟨⟨⟨⟨⟨rfl, rfl⟩, h1⟩, h2⟩, h3⟩, h4⟩, h5⟩ := h
      exact sos_test C.nd (se_chn C.hu h4 h5 (snd_e a C h1).1 (snd_e b C h2).1 (snd_e e3 C h3).1) (fun _ => st_chn C.hu h4 h5 (snd_e a C h1).1 (snd_e b C h2).1 (snd_e e3 C h3).1) rfl
    · cases h
  | .isn ng a, lb, X, W, src, C, h => by
    unfold ckE at h
    split at h
    · simp only [Bool.and_eq_true, decide_eq_true_eq] at h
      obtain ⟨rfl, h1⟩ := h
      exact sos_test C.nd (se_isn (snd_e a C h1).1) (fun _ => st_isn (snd_e a C h1).1) rfl
    · cases h
  | .isb a b, lb, X, W, src, C, h => by
    unfold ckE at h
    split at h
    · simp only [Bool.and_eq_true, beq_iff_eq] at h
      obtain ⟨rfl, h1⟩ := h
      exact sos_test C.nd (se_isb (snd_e a C h1).1) (fun _ => st_isb (snd_e a C h1).1) rfl
    · cases h
  | .ands es, lb, X, W, src, C, h => by
    unfold ckE at h
    split at h
    · simp only [Bool.and_eq_true, Bool.not_eq_true'] at h
      have q := snd_es es C h.2
      have hne := ne_nil h.1
      exact sos_test C.nd (q.an hne _) (fun t => st_w (q.wa hne t _)) rfl
    · cases h
  | .ors es, lb, X, W, src, C, h => by
    unfold ckE at h
    split at h
    · simp only [Bool.and_eq_true, Bool.not_eq_true'] at h
      have q := snd_es es C h.2
      have hne := ne_nil h.1
      exact sos_test C.nd (q.or hne _) (fun t => st_w (q.wo hne t _)) rfl
    · cases h
  | .not a, lb, X, W, src, C, h => by
    unfold ckE at h
    split at h
    · have q := snd_e a C h
      exact sos_test C.nd (se_not q.1) (fun t => st_not (fun env m v m' _ b e => opd_bool e) (q.2.1 t)) rfl
    · cases h
  | .tnot a, lb, X, W, src, C, h => by
    unfold ckE at h
    split at h
    · exact sos_test C.nd (se_tnot (snd_e a C h).1) (fun t => by simp [tst] at t) rfl
    · cases h
  | .ite t a b, lb, X, W, src, C, h => by
    unfold ckE at h
    split at h
    · simp only [Bool.and_eq_true] at h
      obtain ⟨⟨⟨h1, h2⟩, h3⟩, h4⟩ := h
      exact sos_test C.nd (se_ite ((snd_e t C h2).2.1 h1) (snd_e a C h3).1 (snd_e b C h4).1) (fun t => by simp [tst] at t) rfl
    · cases h
  | .tup es, lb, X, W, src, C, h => by
    unfold ckE at h
    split at h
    · simp only [Bool.and_eq_true] at h
      exact sos_plain C.nd (se_tup ((snd_es es C h.2).sa h.1)) rfl rfl
    · cases h
  | .lst es, lb, X, W, src, C, h => by
    unfold ckE at h
    split at h
    · simp only [Bool.and_eq_true] at h
      exact sos_plain C.nd (se_lst ((snd_es es C h.2).sa h.1)) rfl rfl
    · cases h
  | .idx a b, lb, X, W, src, C, h => by
    unfold ckE at h
    split at h
    · simp only [Bool.and_eq_true] at h
      obtain ⟨⟨h1, h2⟩, h3⟩ := h
      exact sos_plain C.nd (se_idx h1 (snd_e a C h2).1 (snd_e b C h3).1) rfl rfl
    · cases h
  | .slo a b, lb, X, W, src, C, h => by
    unfold ckE at h
    split at h
    · simp only [Bool.and_eq_true] at h
      exact sos_plain C.nd (se_slo (snd_e a C h.1).1 (snd_e b C h.2).1) rfl rfl
    · cases h
  | .shi a b, lb, X, W, src, C, h => by
    unfold ckE at h
    split at h
    · simp only [Bool.and_eq_true] at h
      exact sos_plain C.nd (se_shi (snd_e a C h.1).1 (snd_e b C h.2).1) rfl rfl
    · cases h
  | .rev a, lb, X, W, src, C, h => by
    unfold ckE at h
    split at h
    · exact sos_plain C.nd (se_rev (snd_e a C h).1) rfl rfl
    · cases h
  | .call n es, lb, X, W, src, C, h => by
    unfold ckE at h
    split at h
    · simp only [Bool.and_eq_true, decide_eq_true_eq] at h
      obtain ⟨⟨⟨h1, h2⟩, h3⟩, h4⟩ := h
      rename_i z p vs pos
      cases vs with
      | nil =>
        cases es with
        | nil => exact sos_plain C.nd (se_call0 C h1 h2) rfl rfl
        | cons => simp [ckEs] at h4
      | cons v vs => exact sos_plain C.nd (se_call C h1 h2 h3 ((snd_es es C h4).sa h3)) rfl rfl
    · cases h
  | .cav i es, lb, X, W, src, C, h => by
    unfold ckE at h
    split at h
    · simp only [Bool.and_eq_true, Bool.not_eq_true'] at h
      obtain ⟨⟨⟨h1, h2⟩, h3⟩, h4⟩ := h
      rename_i z p vs pos
      cases vs with
      | nil => simp at h3
      | cons v vs => exact sos_plain C.nd (se_cav C h1 h2 ((snd_es es C h4).sa h2)) rfl rfl
    · cases h
  | .blt b es, lb, X, W, src, C, h => by
    unfold ckE at h
    split at h
    · simp only [Bool.and_eq_true, Bool.not_eq_true', decide_eq_true_eq] at h
      obtain ⟨⟨⟨⟨⟨h1, rfl⟩, h2⟩, h3⟩, h5⟩, h4⟩ := h
      rename_i p vs pos
      cases vs with
      | nil => simp at h5
      | cons v vs => exact sos_plain C.nd (se_blt C h1 h2 h3 ((snd_es es C h4).sa h3)) rfl rfl
    · cases h
  | .isi a t, lb, X, W, src, C, h => by
    unfold ckE at h
    split at h
    · simp only [Bool.and_eq_true, decide_eq_true_eq] at h
      obtain ⟨⟨⟨⟨⟨rfl, rfl⟩, h1⟩, h2⟩, h3⟩, h4⟩ := h
      exact sos_plain C.nd (se_isi C h1 h2 h3 (snd_e a C h4).1) rfl rfl
    · cases h
  | .joi a b, lb, X, W, src, C, h => by
    unfold ckE at h
    split at h
    · simp only [Bool.and_eq_true, decide_eq_true_eq] at h
      obtain ⟨⟨⟨⟨⟨rfl, h1⟩, h2⟩, h3⟩, h4⟩, h5⟩ := h
      exact sos_plain C.nd (se_joi h1 h2 h3 (snd_e a C h4).1 (snd_e b C h5).1) rfl rfl
    · cases h
  | .spl a b, lb, X, W, src, C, h => by
    unfold ckE at h
    split at h
    · simp only [Bool.and_eq_true, decide_eq_true_eq] at h
      obtain ⟨⟨⟨⟨⟨rfl, h1⟩, h2⟩, h3⟩, h4⟩, h5⟩ := h
      exact sos_plain C.nd (se_spl h1 h2 h3 (snd_e a C h4).1 (snd_e b C h5).1) rfl rfl
    · cases h
  | .upp a, lb, X, W, src, C, h => by
    unfold ckE at h
    split at h
    · simp only [Bool.and_eq_true, decide_eq_true_eq] at h
      obtain ⟨⟨⟨rfl, h1⟩, h2⟩, h4⟩ := h
      exact sos_plain C.nd (se_upp h1 h2 (snd_e a C h4).1) rfl rfl
    · cases h
  | .kdc g a, lb, X, W, src, C, h => by
    unfold ckE at h
    split at h
    · simp only [Bool.and_eq_true, decide_eq_true_eq] at h
      obtain ⟨⟨⟨h1, h2⟩, h3⟩, h4⟩ := h
      exact sos_plain C.nd (se_kdc C h1 h2 h3 (snd_e a C h4).1) rfl rfl
    · cases h
  | .sse a, lb, X, W, src, C, h => by
    unfold ckE at h
    split at h
    · simp only [Bool.and_eq_true, decide_eq_true_eq] at h
      obtain ⟨⟨⟨⟨⟨rfl, rfl⟩, h1⟩, h2⟩, h3⟩, h4⟩ := h
      exact sos_plain C.nd (se_sse C h1 h2 h3 (snd_e a C h4).1) rfl rfl
    · cases h
  | .lrg a, lb, X, W, src, C, h => by
    unfold ckE at h
    split at h
    · simp only [Bool.and_eq_true, decide_eq_true_eq] at h
      obtain ⟨⟨⟨⟨⟨rfl, rfl⟩, h1⟩, h2⟩, h3⟩, h4⟩ := h
      exact sos_plain C.nd (se_lrg C h1 h2 h3 (snd_e a C h4).1) rfl rfl
    · cases h
  | .trg a, lb, X, W, src, C, h => by
    unfold ckE at h
    split at h
    · simp only [Bool.and_eq_true, decide_eq_true_eq] at h
      obtain ⟨⟨⟨⟨⟨rfl, rfl⟩, h1⟩, h2⟩, h3⟩, h4⟩ := h
      exact sos_plain C.nd (se_trg C h1 h2 h3 (snd_e a C h4).1) rfl rfl
    · cases h
  | .cm1 elt tg it own ts, lb, X, W, src, C, h => by
    unfold ckE at h
    split at h
    · simp only [Bool.and_eq_true, decide_eq_true_eq] at h
      obtain ⟨⟨⟨⟨⟨⟨⟨⟨h1, h2⟩, h3⟩, h3c⟩, h4⟩, h5⟩, h6⟩, h7⟩, h8⟩ := h
      rename_i elt' tg' it' ifs scope pos
      have hi := snd_i it (pk := true) C h4
      have ht : ∀ s H0 D cl fp, STT L (ctx X scope s H0 D cl fp) W0 (evT G c ts) ifs := fun s H0 D cl fp => (snd_es ts (cok_blk C s H0 D cl fp) h6).tt h8 h5
      have he : ∀ s H0 D cl fp, SE L (ctx X scope s H0 D cl fp) W0 (evE G c elt) elt' := fun s H0 D cl fp => (snd_e elt (cok_blk C s H0 D cl fp) h7).1
      have hg : ∀ s H0 D cl fp, SG L (ctx X scope s H0 D cl fp) own tg tg' := fun s H0 D cl fp => sg_of (lo := false) C.calm C.nd (fun _ => tgC_fn h3c) h3
      exact ⟨se_cm1 C.calm C.nd hi (blkOk_by h1) (own_map h2) (fold_it h4 _) hg ht he, fun _ => st_plain (se_cm1 C.calm C.nd hi (blkOk_by h1) (own_map h2) (fold_it h4 _) hg ht he) rfl, fun hk => sas_cm1 C.calm C.nd hk hi (blkOk_by h1) (own_map h2) (fold_it h4 _) hg ht he⟩
    · cases h
  | .cm2 elt tg it tg2 it2 own own2 ts, lb, X, W, src, C, h => by
    unfold ckE at h
    split at h
    · simp only [Bool.and_eq_true, decide_eq_true_eq, List.all_eq_true, List.contains_eq_mem] at h
      obtain ⟨⟨⟨⟨⟨⟨⟨⟨⟨⟨⟨⟨h1, h2⟩, h3⟩, h4⟩, h4c⟩, h5⟩, h5c⟩, h6⟩, h7⟩, h8⟩, h9⟩, h10⟩, h11⟩ := h
      rename_i elt' tg' it' tg2' it2' ifs scope pos
      have hi := snd_i it (pk := true) C h6
      have hi2 : ∀ s H0 D cl fp, SI2 L (ctx X scope s H0 D cl fp) W0 (evI G c (isDV it2) it2) tg2' it2' := fun s H0 D cl fp => by
        by_cases hd : isDV it2 = true
        · rw [hd]
          unfold isDV at hd
          split at hd
          · unfold ckI at h7
            simp only [Bool.and_eq_true] at h7
            have h7 := h7.2
            unfold ckE at h7
            split at h7
            · exact si2_var h7
            · cases h7
          · cases hd
        · have hd : isDV it2 = false := by simpa using hd
          rw [hd]
          exact si2_of (snd_i it2 (cok_blk C s H0 D cl fp) h7)
      have ht : ∀ s H0 D cl fp, STT L (ctx X scope s H0 D cl fp) W0 (evT G c ts) ifs := fun s H0 D cl fp => (snd_es ts (cok_blk C s H0 D cl fp) h9).tt h11 h8
      have he : ∀ s H0 D cl fp, SE L (ctx X scope s H0 D cl fp) W0 (evE G c elt) elt' := fun s H0 D cl fp => (snd_e elt (cok_blk C s H0 D cl fp) h10).1
      have hg : ∀ s H0 D cl fp, SG L (ctx X scope s H0 D cl fp) own tg tg' := fun s H0 D cl fp => sg_of (lo := false) C.calm C.nd (fun _ => tgC_fn h4c) h4
      have hg2 : ∀ s H0 D cl fp, SG L (ctx X scope s H0 D cl fp) own2 tg2 tg2' := fun s H0 D cl fp => sg_of (lo := false) C.calm C.nd (fun _ => tgC_fn h5c) h5
      have ho := own_map (N := X.N) (own := own) (List.all_eq_true.mpr fun i hi => decide_eq_true (h2 i hi))
      have e := se_cm2 (pos := pos) C.calm C.nd hi (blkOk_by h1) ho h3 (fold_it h6 _) (fun env => fold_it h7 env) hg hi2 hg2 ht he
      exact ⟨e, fun _ => st_plain e rfl, fun hk => sas_cm2 C.calm C.nd hk hi (blkOk_by h1) ho h3 (fold_it h6 _) (fun env => fold_it h7 env) hg hi2 hg2 ht he⟩
    · cases h
  | .ler b, lb, X, W, src, C, h => by
    unfold ckE at h
    split at h
    · simp only [Bool.and_eq_true, decide_eq_true_eq] at h
      obtain ⟨⟨⟨⟨rfl, h1⟩, h3⟩, h4⟩, h5⟩ := h
      exact sos_plain C.nd (se_ler C h1 h3 h4 fun A outer s H E f d hr => (snd_e b (cok_lam C A outer s H E f d hr) h5).1) rfl rfl
    · cases h
theorem snd_es : ∀ (es : Es) {lb : Bool} {X : Cx} {W : WX} {vs : List Expr}, Cok L G c k lb X W → ckEs L.toNms lb X.N X.env.scope es vs = true → SosL L X W (evs G c es) (evA G c es) (evO G c es) (evT G c es) (tstA es) vs
  | .nil, lb, X, W, vs, C, h => by
    cases vs with
    | nil => exact ⟨fun _ => sa_nil, fun _ => sh_nil, fun z => absurd rfl z, fun z => absurd rfl z, fun z => absurd rfl z, fun z => absurd rfl z, fun _ _ => stt_nil⟩
    | cons => simp [ckEs] at h
  | .cons e es, lb, X, W, vs, C, h => by
    cases vs with
    | nil => simp [ckEs] at h
    | cons v vs =>
      unfold ckEs at h
      simp only [Bool.and_eq_true] at h
      have q := snd_e e C h.1
      have qs := snd_es es C h.2
      have t1 : tstA (.cons e es) = true → tst e = true ∧ tstA es = true := fun z => by simpa [tstA] using z
      cases es with
      | nil =>
        cases vs with
        | cons => simp [ckEs] at h
        | nil =>
          refine ⟨fun hs => ?_, fun hs => ?_, fun _ pos => se_one q.1, fun _ pos => se_one q.1, fun _ t pos => sw_one_and (q.2.1 (t1 t).1), fun _ t pos => sw_one_or (q.2.1 (t1 t).1), fun _ t => ?_⟩
          · simp only [List.all_cons, Bool.and_eq_true] at hs
            exact sa_cons hs.1 q.1 (qs.sa rfl)
          · simp only [List.all_cons, Bool.and_eq_true] at hs
            exact sh_cons hs.1 q.1 (qs.sh rfl)
          · exact stt_one (q.2.1 (t1 t).1)
      | cons e2 es2 =>
        cases vs with
        | nil => simp [ckEs] at h
        | cons v2 vs2 =>
          refine ⟨fun hs => ?_, fun hs => ?_, fun _ pos => se_and q.1 (qs.an (by simp) pos), fun _ pos => se_or q.1 (qs.or (by simp) pos), fun _ t pos => sw_and (q.2.1 (t1 t).1) (qs.wa (by simp) (t1 t).2 pos), fun _ t pos => sw_or (q.2.1 (t1 t).1) (qs.wo (by simp) (t1 t).2 pos), fun hl _ => by simp at hl⟩
          · have hs2 := hs
            rw [List.all_cons, Bool.and_eq_true] at hs
            exact sa_cons hs.1 q.1 (qs.sa hs.2)
          · rw [List.all_cons, Bool.and_eq_true] at hs
            exact sh_cons hs.1 q.1 (qs.sh hs.2)
theorem snd_i : ∀ (it : It) {lb pk : Bool} {X : Cx} {W : WX} {src tg : Expr}, Cok L G c k lb X W → ckI L.toNms lb X.N X.env.scope it src tg = true → SI L X W pk (evI G c pk it) tg src
  | .dat e, lb, pk, X, W, src, tg, C, h => by
    unfold ckI at h
    simp only [Bool.and_eq_true] at h
    exact si_dat (snd_e e C h.2).1
  | .rng e, lb, pk, X, W, src, tg, C, h => by
    unfold ckI at h
    split at h
    · simp only [Bool.and_eq_true, decide_eq_true_eq] at h
      obtain ⟨⟨⟨rfl, h1⟩, h2⟩, h3⟩ := h
      exact si_rng C h1 h2 (snd_e e C h3).1
    · cases h
  | .rng2 a b, lb, pk, X, W, src, tg, C, h => by
    unfold ckI at h
    split at h
    · simp only [Bool.and_eq_true, decide_eq_true_eq] at h
      obtain ⟨⟨⟨⟨⟨rfl, h1⟩, h2⟩, h3⟩, h4⟩, h5⟩ := h
      exact si_rng2 C h1 h2 h3 (snd_e a C h4).1 (snd_e b C h5).1
    · cases h
  | .enm e, lb, pk, X, W, src, tg, C, h => by
    unfold ckI at h
    split at h
    · simp only [Bool.and_eq_true, decide_eq_true_eq] at h
      obtain ⟨⟨⟨⟨h0, rfl⟩, h1⟩, h2⟩, h3⟩ := h
      cases tg with
      | Tuple => exact si_enm C h1 h2 (snd_e e C h3).1
      | _ => simp [isTup] at h0
    · cases h
  | .zip a b, lb, pk, X, W, src, tg, C, h => by
    unfold ckI at h
    split at h
    · simp only [Bool.and_eq_true, decide_eq_true_eq] at h
      obtain ⟨⟨⟨⟨⟨⟨h0, rfl⟩, h1⟩, h2⟩, h3⟩, h4⟩, h5⟩ := h
      cases tg with
      | Tuple => exact si_zip C h1 h2 h3 (snd_e a C h4).1 (snd_e b C h5).1
      | _ => simp [isTup] at h0
    · cases h
  | .fns ns, lb, pk, X, W, src, tg, C, h => by
    unfold ckI at h
    split at h
    · simp only [Bool.and_eq_true, decide_eq_true_eq] at h
      exact si_fns C h.1 (by simp only [Bool.and_eq_true]; exact h.2)
    · cases h
end
end
end Tn

set_option maxRecDepth 100000
set_option maxHeartbeats 2000000
/-! TnD: a dict of texts that is looked at once, where a def gives back. -/
namespace Tn
open PySem PySem.Spec PyProof.Rows L2
/-- the display -/
def dcB : List (Str × Str) → List (Option Expr) → List Expr → Bool
  | [], [], [] => true
  | (a, b) :: r, some (.Constant (.str x) _ _) :: ks, .Constant (.str y) _ _ :: vs => decide (a = x) && (decide (b = y) && (ascS b && dcB r ks vs))
  | _, _, _ => false
section
variable {X : Cx}
def dcT (kvs : List (Str × Str)) : List (TE × TE) := kvs.map fun q => (tC (.str q.1), tC (.str q.2))
theorem dcB_ok {pos : Pos} : ∀ {kvs : List (Str × Str)} {ks : List (Option Expr)} {vs : List Expr}, dcB kvs ks vs = true → PPs X pos ks vs (dcT kvs) ∧ ks.all (·.isSome) = true ∧ ks.length = kvs.length ∧ vs.length = kvs.length ∧ ∀ q ∈ kvs, ascS q.2 = true
  | kvs, ks, vs, h => by
    unfold dcB at h
    split at h
    · exact ⟨pps_nil, rfl, rfl, rfl, fun _ z => by cases z⟩
    · simp only [Bool.and_eq_true, decide_eq_true_eq] at h
      obtain ⟨rfl, rfl, h1, h2⟩ := h
      obtain ⟨q1, q2, q3, q4, q5⟩ := dcB_ok h2
      refine ⟨pps_cons pe_str pe_str q1, by rw [List.all_cons, q2]; rfl, by rw [List.length_cons, List.length_cons, q3], by rw [List.length_cons, List.length_cons, q4], fun q hq => ?_⟩
      rcases List.mem_cons.mp hq with rfl | hq
      · exact h1
      · exact q5 q hq
    · cases h
theorem dcT_run : ∀ (kvs : List (Str × Str)) (σ : L2.St) (H : Hp) (Q : List (V × V) → Hp → Prop), Q (kvs.map fun q => (V.str q.1, V.str q.2)) H → tPairs (dcT kvs) σ H Q
  | [], σ, H, Q, h => h
  | q :: r, σ, H, Q, h => by
    show tPairs (dcT r) σ H fun ps H3 => Q ((V.str q.1, V.str q.2) :: ps) H3
    exact dcT_run r σ H _ h
theorem dk_asc {kvs : List (Str × Str)} {x : D} {t : Str} (ha : ∀ q ∈ kvs, ascS q.2 = true) (h : dkF kvs x = some t) : ∃ s, x = .str s ∧ valV (mergeK [] (kvs.map fun q => ((Sum.inr q.1 : Key), V.str q.2))) (.inr s) = some (.str t) ∧ ascS t = true := by
  unfold dkF at h
  split at h
  · rename_i s
    split at h
    · rename_i t' e
      cases h
      refine ⟨s, rfl, e, ?_⟩
      have key : ∀ (more kvs : List (Key × V)), (∀ q ∈ more, ∀ y, q.2 = V.str y → ascS y = true) → (∀ q ∈ kvs, ∀ y, q.2 = V.str y → ascS y = true) → ∀ q ∈ mergeK kvs more, ∀ y, q.2 = V.str y → ascS y = true := by
        intro more
        induction more with
        | nil => exact fun kvs _ h => h
        | cons p r ih =>
          intro kvs h1 h2
          refine ih (putK kvs p.1 p.2) (fun q hq => h1 q (.tail _ hq)) fun q hq y hy => ?_
          unfold putK at hq
          split at hq
          · obtain ⟨q0, hq0, rfl⟩ := List.mem_map.mp hq
            split at hy
            · exact h1 p (.head _) y hy
            · exact h2 q0 hq0 y hy
          · rcases List.mem_append.mp hq with hq | hq
            · exact h2 q hq y hy
            · rw [List.mem_singleton] at hq
              subst hq
              exact h1 p (.head _) y hy
      unfold valV at e
      cases f : (mergeK [] (kvs.map fun q => ((Sum.inr q.1 : Key), V.str q.2))).find? fun kv => decide (kv.1 = Sum.inr s) with
      | none => rw [f] at e; cases e
      | some q =>
        rw [f] at e
        have e2 : q.2 = V.str t := Option.some.inj e
        refine key _ [] (fun q hq y hy => ?_) (fun q hq => by cases hq) q (List.mem_of_find?_eq_some f) t e2
        obtain ⟨q0, hq0, rfl⟩ := List.mem_map.mp hq
        cases hy
        exact ha q0 hq0
    · cases h
  · cases h
end
theorem sh_noSl {a : Expr} (h : sh a = true) : NoSl a := fun ov iv => by cases a <;> first | rfl | (simp [sh] at h)
section
variable {L : Link} {G : Glob} {c : Nat → List SV → Mem → R SV} {k : Nat} {X : Cx} {E : XK}
theorem BI.sig {K : PySem.W.Frag} {av0 hd0 av hd : List Addr} {H0 H : Hp} {σ σ1 : L2.St} {env : EnvT} {m : Mem} (b : BI L K av0 hd0 H0 av hd σ env H m) (hl : σ1.length = σ.length) (h : ∀ (j : Nat) (v : SV), env[j]? = some (some v) → σ1[j]? = σ[j]?) : BI L K av0 hd0 H0 av hd σ1 env H m :=
  ⟨b.rm, ⟨by rw [hl]; exact b.re.len, fun j v e => by
    obtain ⟨x, h1, h2⟩ := b.re.sl j v e
    exact ⟨x, by rw [h j v e]; exact h1, h2⟩⟩, b.ex, b.hs, b.hn, b.gr, fun i j x y a h1 h2 h3 h4 => b.ds i j x y a h1 h2 (by rw [← h i _ h1]; exact h3) (by rw [← h j _ h2]; exact h4), fun i x a h1 h2 => b.nh i x a h1 (by rw [← h i _ h1]; exact h2)⟩
theorem sb_dct {ea eb : EnvT → Mem → R SV} {i : Nat} {kvs : List (Str × Str)} {z : Str} {ks : List (Option Expr)} {vs : List Expr} {a b : Expr} {p1 p2 p3 p4 p5 p6 p7 p8 : Pos} {j6 : Nat} (hN : X.N.Nodup) (hu : X.A.units + 65 < cLine) (h1 : X.N[i]? = some z) (h2 : Sto X z) (hv : visB X.N X.env.scope i z = true)
    (hk : dcB kvs ks vs = true) (h0 : kvs ≠ []) (h15 : kvs.length ≤ 15) (hs : NoSl a) (ha : SE L X (fun cls d _ H => E cls d H) ea a) (hb : SE L X (fun cls d _ H => E cls d H) eb b) :
    SB L X E (fun env m => dcO env[i]? (bd (ea env m) fun x m => dcK (dkF kvs x) fun t => bd (eb env m) fun y m => lift (binD .add (.tuple [.str t]) y) m))
      [.Assign [.Name z p1] (.Dict ks vs p2) p3, .Return (some (.BinOp (.Tuple [.Subscript (.Name z p4) a p5] j6 p6) .Add b p7)) p8] := by
  intro av0 hd0 H0 av hd σ env H m D s0 bi q
  replace q : Post L X.K av0 hd0 H0 hd H D E (dcO env[i]? (bd (ea env m) fun x m => dcK (dkF kvs x) fun t => bd (eb env m) fun y m => lift (binD .add (.tuple [.str t]) y) m)) := q
  obtain ⟨q1, q2, q3, q4, q5⟩ := dcB_ok (X := X) (pos := p2) hk
  obtain ⟨v1, v2, v3, v4⟩ := vis_of hv
  cases hi : env[i]? with
  | none => rw [hi] at q; exact q.elim
  | some o =>
  cases o with
  | some w => rw [hi] at q; exact q.elim
  | none =>
  rw [hi] at q
  refine wpB_of (pss_cons ps_w pss_w) (wpS_of (ps_set hN h1 h2.1 (pe_disp q1 q2 (by rw [q3, q4]) (fun z => h0 (List.length_eq_zero_iff.mp (by rw [← q3, z]; rfl))) (by rw [q3]; exact h15)) rfl h2.2) ?_)
  intro p hp
  refine dcT_run kvs _ _ _ ⟨upd_same, kvs.map fun q => ((Sum.inr q.1 : Key), V.str q.2), by rw [List.map_map]; rfl, by rw [List.length_map]; exact h15, ?_⟩
  have eu : upd (upd H p (.dK [])) p (.dK (mergeK [] (kvs.map fun q => ((Sum.inr q.1 : Key), V.str q.2)))) = upd H p (.dK (mergeK [] (kvs.map fun q => ((Sum.inr q.1 : Key), V.str q.2)))) := by
    funext b
    unfold upd
    split <;> rfl
  rw [eu]
  generalize hH : upd H p (.dK (mergeK [] (kvs.map fun q => ((Sum.inr q.1 : Key), V.str q.2)))) = H1
  have g1 : Gr av H H1 := by rw [← hH]; exact Gr.new hp
  have rm1 : RM L.T X.K av hd H1 m := by rw [← hH]; exact bi.rm.new hp
  have hat : H1 p = some (.dK (mergeK [] (kvs.map fun q => ((Sum.inr q.1 : Key), V.str q.2)))) := by rw [← hH]; exact upd_same
  have pn : p ∉ av := fun z => by
    have := bi.rm.al p (bi.rm.sub p z)
    exact this hp
  have il : i < σ.length := by
    rw [← bi.re.len]
    exact (List.getElem?_eq_some_iff.mp hi).1
  have b1 : BI L X.K av0 hd0 H0 av hd (σ.set i (some (.ref p))) env H1 m := (bi.go g1 rm1).sig (by simp) fun j v e => by
    have : j ≠ i := fun z => by rw [z, hi] at e; cases e
    rw [List.getElem?_set_ne (Ne.symm this)]
  have hz : (σ.set i (some (V.ref p)))[i]? = some (some (V.ref p)) := by rw [List.getElem?_set_self il]
  have post := Post.at (hide_gr g1 bi.rm.sub) q
  refine wpB_of (pss_cons ps_w pss_w) (wpS_of (ps_ret pe_w) (wp_of (pe_op op_w (pe_tup (pa_cons (pe_dget (by omega) (pe_var v1 v2 v3 v4) pe_w hs) pa_nil)) pe_w) ?_))
  refine ⟨_, hz, ha av hd _ env H1 m _ b1.rm b1.re ((Post.of b1 s0 post).bd fun v x m2 H2 _ ox g2 rm2 k2 xv rx => ?_)⟩
  cases hd' : dkF kvs x with
  | none => rw [hd'] at k2; exact k2.elim
  | some t =>
  rw [hd'] at k2
  obtain ⟨s, rfl, e2, as⟩ := dk_asc q5 hd'
  have gx := (RO.of rm1.sub rx ox).str
  subst gx
  have hat2 : H2 p = some (.dK (mergeK [] (kvs.map fun q => ((Sum.inr q.1 : Key), V.str q.2)))) := g2.st _ _ hat pn (fun _ => HO.noConfusion)
  refine ⟨p, .str t, rfl, ?_, ?_⟩
  · rw [← e2]
    exact DGet.k (k := (Sum.inr s : Key)) hat2
  refine ⟨by rw [sizeLine_eq, List.length_singleton]; decide, fun p2 n2 => ?_⟩
  have g3 : Gr av H2 (upd H2 p2 (.tup [.str t])) := Gr.new n2
  have rm3 := rm2.new (o := .tup [.str t]) n2
  have rt : RV X.K L.fa av hd H2 (upd H2 p2 (.tup [.str t])) (.ref p2) (.d (.tuple [.str t])) := new_tup rm2 n2 ⟨.cons (.str t) .nil, by simp [LayAll, ascAll, asc, as]⟩
  refine hb av hd _ env _ m2 _ rm3 (b1.re.gr (g2.trans g3) b1.rm.sub) ((Good.at g3 k2).bd fun v2 y m4 H4 _ oy g4 rm4 k4 yv ry => ?_)
  obtain ⟨w, ew, q6⟩ := k4.lift
  refine bin_ok (fa := L.fa) .add rm4 (g2.trans (g3.trans g4)) ?_ (RO.of rm3.sub ry oy) ew fun H' zz gz rz vz => ?_
  · exact (RO.of rm2.sub rt rfl).gr g4 rm3.sub
  · obtain ⟨b5, g5, q7⟩ := q6 H' gz rz
    cases w with
    | d y5 => exact q7 zz H' b5.gr (rz.cut b5.ex s0 b5.hs) (RV.out b1 g5 rz vz (fun _ => SV.noConfusion) fun _ => SV.noConfusion)
    | _ => exact q7.elim
end
end Tn

set_option maxRecDepth 100000
set_option maxHeartbeats 2000000
/-! Tn26: the checker is sound: statements. -/
namespace Tn
open PySem PySem.Spec PyProof.Rows L2
def asgB (N : List Str) (sc : Scope) : List Nat → List Expr → List Expr → Bool
  | [i, j], [t1, t2], [a, b] => decide (i ≠ j) && tgB true N sc [i, j] (.one i) t1 && tgB true N sc [i, j] (.one j) t2 && decide (swB [t1, t2] [a, b] sc = some (some [nmOf t1, nmOf t2]))
  | [i, j, l], [t1, t2, t3], [a, b, c] => decide (i ≠ j) && decide (i ≠ l) && decide (j ≠ l) && tgB true N sc [i, j, l] (.one i) t1 && tgB true N sc [i, j, l] (.one j) t2 && tgB true N sc [i, j, l] (.one l) t3 && decide (swB [t1, t2, t3] [a, b, c] sc = some (some [nmOf t1, nmOf t2, nmOf t3]))
  | _, _, _ => false
section
variable (L : Nms)
mutual
def ckS (N : List Str) (sc : Scope) : S → Stmt → Bool
  | .asg i e, src => match src with
    | .Assign [t] a _ => tgB false N sc [i] (.one i) t && ckE L (L.ls sc.names) N sc e a
    | _ => false
  | .asgs is es, src => match src with
    | .Assign [.Tuple ts _ _] (.Tuple vs _ _) _ => vs.all sh && ckEs L (L.ls sc.names) N sc es vs && is.length == ts.length && decide (is.length ≤ 20) && ((is.zip ts).all fun p => tgB false N sc is (.one p.1) p.2) && (decide (swB ts vs sc = some none) || asgB N sc is ts vs)
    | _ => false
  | .unp is e, src => match src with
    | .Assign [t] a _ => isTup t && !isTup a && tgB false N sc is (.tup is) t && ckE L (L.ls sc.names) N sc e a
    | _ => false
  | .newh i e, src => match src with
    | .Assign [t] a _ => tgB false N sc [i] (.one i) t && ckE L (L.ls sc.names) N sc e a
    | _ => false
  | .app i e, src => match src with
    | .Expr (.Call (.Attribute (.Name z _) n ap) [a] [] cp) _ => decide (n = ("append" : Str)) && visB N sc i z && (ap.endLine == cp.line) && sh a && ckE L (L.ls sc.names) N sc e a
    | _ => false
  | .sti i ix e, src => match src with
    | .Assign [.Subscript (.Name z _) ix' _] a _ => visB N sc i z && sh ix' && ckE L (L.ls sc.names) N sc ix ix' && ckE L (L.ls sc.names) N sc e a
    | _ => false
  | .exp e, src => match src with
    | .Expr a _ => plainA a && ckE L (L.ls sc.names) N sc e a
    | _ => false
  | .ret e, src => match src with
    | .Return (some a) _ => ckE L (L.ls sc.names) N sc e a
    | _ => false
  | .retN, src => match src with
    | .Return none _ => true
    | _ => false
  | .ifs t a b, src => match src with
    | .If t' a' b' _ => tst t && ckE L (L.ls sc.names) N sc t t' && ckB N sc a a' && ckB N sc b b'
    | _ => false
  | .whl t b, src => match src with
    | .While t' b' [] _ => tst t && ckE L (L.ls sc.names) N sc t t' && ckB N sc b b'
    | _ => false
  | .fr tg it b, src => match src with
    | .For tg' it' b' [] _ => tgB false N sc (tgIs tg) tg tg' && ckI L (L.ls sc.names) N sc it it' tg' && ckB N sc b b'
    | _ => false
  | .rai k, src => match src with
    | .Raise (some (.Call (.Name z _) [.Constant (.str _) _ _] [] _)) none _ => decide (L.cn k = some z) && glB sc z
    | _ => false
  | .raiv _ _, _ => false
  | .frz _ s, src => ckS N sc s src
  | .any, _ => true
def ckB (N : List Str) (sc : Scope) : Ss → List Stmt → Bool
  | .nil, src => src.isEmpty
  | .cons s ss, src => match src with
    | x :: xs => ckS N sc s x && ckB N sc ss xs
    | _ => false
  | .dct i kvs a b, src => match src with
    | [.Assign [.Name z p1] (.Dict ks vs _) _, .Return (some (.BinOp (.Tuple [.Subscript (.Name z2 _) a' _] _ _) .Add b' _)) _] =>
      decide (z = z2) && tgB false N sc [i] (.one i) (.Name z p1) && visB N sc i z && dcB kvs ks vs && !kvs.isEmpty && decide (kvs.length ≤ 15) && sh a' && ckE L (L.ls sc.names) N sc a a' && ckE L (L.ls sc.names) N sc b b'
    | _ => false
end
end
section
variable {L : Link} {G : Glob} {c : Nat → List SV → Mem → R SV} {k : Nat} {X : Cx} {E : XK}
theorem plainA_none {e : Expr} {l : Nat} (h : plainA e = true) : swapsWith e none l X.env = pure false := by
  cases e <;> first | rfl | (simp [plainA] at h)
theorem tg_name {lo : Bool} {N : List Str} {sc : Scope} {own : List Nat} {i : Nat} {t : Expr} (h : tgB lo N sc own (.one i) t = true) : ∃ z p, t = .Name z p := by
  cases t with
  | Name z p => exact ⟨z, p, rfl⟩
  | _ => simp [tgB] at h
theorem isTup_ok {t : Expr} (h : isTup t = true) : ∃ ts k p, t = .Tuple ts k p := by
  cases t with
  | Tuple ts k p => exact ⟨ts, k, p, rfl⟩
  | _ => simp [isTup] at h
theorem ss_ret_e {e : Tn.E} {a : Expr} {pos : Pos} (C : Cok L G c k (L.ls X.env.scope.names) X (fun cls d _ H => E cls d H)) (h : ckE L.toNms (L.ls X.env.scope.names) X.N X.env.scope e a = true) : SS L X E (exS G c (.ret e)) (.Return (some a) pos) := by
  have q := snd_e e C h
  cases e with
  | var i =>
    unfold ckE at h
    split at h
    · exact ss_retv h
    · cases h
  | _ => exact ss_ret q.1
mutual
theorem snd_s (K : Sok L G c k X E) : ∀ (s : S) {src : Stmt}, ckS L.toNms X.N X.env.scope s src = true → SS L X E (exS G c s) src
  | .asg i e, src, h => by
    unfold ckS at h
    split at h
    · simp only [Bool.and_eq_true] at h
      obtain ⟨z, p, rfl⟩ := tg_name h.1
      obtain ⟨a1, a2, _⟩ := sto_of K.ck.nd (fun _ => K.fnc _) h.1
      exact ss_asg a1 a2 ((snd_e e K.ck h.2).2.2 K.kind)
    · cases h
  | .asgs is es, src, h => by
    unfold ckS at h
    split at h
    · simp only [Bool.and_eq_true, Bool.or_eq_true, decide_eq_true_eq, beq_iff_eq] at h
      obtain ⟨⟨⟨⟨⟨h1, h2⟩, h3⟩, h4⟩, h5⟩, h6⟩ := h
      have q := (snd_es es K.ck h2).sh h1
      rcases h6 with h6 | h6
      · exact ss_asgsT K.kind K.ck.calm K.ck.nd K.fnc h3 h4 h5 h6 q
      · unfold asgB at h6
        split at h6
        · simp only [Bool.and_eq_true, decide_eq_true_eq] at h6
          obtain ⟨⟨⟨h7, h8⟩, h9⟩, h10⟩ := h6
          exact ss_asgs2 K.kind K.ck.calm K.ck.nd h7 h8 h9 h10 q
        · simp only [Bool.and_eq_true, decide_eq_true_eq] at h6
          obtain ⟨⟨⟨⟨⟨⟨h7, h8⟩, h9⟩, h10⟩, h11⟩, h12⟩, h13⟩ := h6
          exact ss_asgs3 K.kind K.ck.calm K.ck.nd h7 h8 h9 h10 h11 h12 h13 q
        · cases h6
    · cases h
  | .unp is e, src, h => by
    unfold ckS at h
    split at h
    · simp only [Bool.and_eq_true, Bool.not_eq_true'] at h
      obtain ⟨⟨⟨h1, h2⟩, h3⟩, h4⟩ := h
      obtain ⟨ts, kk, p, rfl⟩ := isTup_ok h1
      exact ss_unp h2 (sg_of (lo := false) K.ck.calm K.ck.nd (fun _ z _ => K.fnc z) h3) (snd_e e K.ck h4).1
    · cases h
  | .newh i e, src, h => by
    unfold ckS at h
    split at h
    · simp only [Bool.and_eq_true] at h
      obtain ⟨z, p, rfl⟩ := tg_name h.1
      obtain ⟨a1, a2, _⟩ := sto_of K.ck.nd (fun _ => K.fnc _) h.1
      exact ss_newh a1 a2 ((snd_e e K.ck h.2).2.2 K.kind)
    · cases h
  | .app i e, src, h => by
    unfold ckS at h
    split at h
    · simp only [Bool.and_eq_true, decide_eq_true_eq] at h
      obtain ⟨⟨⟨⟨rfl, h1⟩, h2⟩, h3⟩, h4⟩ := h
      exact ss_app h1 h2 h3 (snd_e e K.ck h4).1
    · cases h
  | .sti i ix e, src, h => by
    unfold ckS at h
    split at h
    · simp only [Bool.and_eq_true] at h
      obtain ⟨⟨⟨h1, h2⟩, h3⟩, h4⟩ := h
      exact ss_sti h1 h2 (snd_e ix K.ck h3).1 (snd_e e K.ck h4).1
    · cases h
  | .exp e, src, h => by
    unfold ckS at h
    split at h
    · simp only [Bool.and_eq_true] at h
      exact ss_exp (plainA_none h.1) (snd_e e K.ck h.2).1
    · cases h
  | .ret e, src, h => by
    unfold ckS at h
    split at h
    · exact ss_ret_e K.ck h
    · cases h
  | .retN, src, h => by
    unfold ckS at h
    split at h
    · exact ss_retN
    · cases h
  | .ifs t a b, src, h => by
    unfold ckS at h
    split at h
    · simp only [Bool.and_eq_true] at h
      obtain ⟨⟨⟨h1, h2⟩, h3⟩, h4⟩ := h
      exact ss_if ((snd_e t K.ck h2).2.1 h1) (snd_b K a h3) (snd_b K b h4)
    · cases h
  | .whl t b, src, h => by
    unfold ckS at h
    split at h
    · simp only [Bool.and_eq_true] at h
      obtain ⟨⟨h1, h2⟩, h3⟩ := h
      exact ss_while K.po ((snd_e t K.ck h2).2.1 h1) (snd_b K b h3)
    · cases h
  | .fr tg it b, src, h => by
    unfold ckS at h
    split at h
    · simp only [Bool.and_eq_true] at h
      obtain ⟨⟨h1, h2⟩, h3⟩ := h
      exact ss_for K.po K.ck.calm (snd_i it K.ck h2) (fold_it h2 _) (sg_of (lo := false) K.ck.calm K.ck.nd (fun _ z _ => K.fnc z) h1) (snd_b K b h3)
    · cases h
  | .rai n, src, h => by
    unfold ckS at h
    split at h
    · simp only [Bool.and_eq_true, decide_eq_true_eq] at h
      exact ss_rai K.ck h.1 h.2
    · cases h
  | .raiv n e, src, h => by
    unfold ckS at h
    cases h
  | .frz i s, src, h => by
    unfold ckS at h
    have q := snd_s K s h
    intro av0 hd0 H0 av hd σ env H m D s0 b p
    obtain ⟨hd1, b1, le1⟩ := b.fz i
    exact q av0 hd0 H0 av hd1 σ _ H m D s0 b1 (Post.at le1 p)
  | .any, src, h => fun av0 hd0 H0 av hd σ env H m D s0 b p => p.elim
theorem snd_b (K : Sok L G c k X E) : ∀ (ss : Ss) {src : List Stmt}, ckB L.toNms X.N X.env.scope ss src = true → SB L X E (exB G c ss) src
  | .nil, src, h => by
    unfold ckB at h
    cases src with
    | nil => exact sb_nil
    | cons => cases h
  | .cons s ss, src, h => by
    cases src with
    | nil => simp [ckB] at h
    | cons x xs =>
      unfold ckB at h
      simp only [Bool.and_eq_true] at h
      exact sb_cons (snd_s K s h.1) (snd_b K ss h.2)
  | .dct i kvs a b, src, h => by
    unfold ckB at h
    split at h
    · simp only [Bool.and_eq_true, decide_eq_true_eq, Bool.not_eq_true', List.isEmpty_eq_false_iff] at h
      obtain ⟨⟨⟨⟨⟨⟨⟨⟨rfl, h1⟩, h2⟩, h3⟩, h4⟩, h5⟩, h6⟩, h7⟩, h8⟩ := h
      obtain ⟨a1, a2, _⟩ := sto_of K.ck.nd (fun _ => K.fnc _) h1
      exact sb_dct K.ck.nd K.ck.hu a1 a2 h2 h3 h4 h5 (sh_noSl h6) (snd_e a K.ck h7).1 (snd_e b K.ck h8).1
    · cases h
end
end
end Tn

set_option maxRecDepth 100000
set_option maxHeartbeats 1000000
/-! Tn27: all defs keep their promise. -/
namespace Tn
open PySem PySem.Spec PyProof.Rows L2
/-- what a link keeps, but for the promises -/
structure LF0 (L : Link) (G : Glob) (P : Program) (w : World) (K : PySem.W.Frag) (mg : Str → Option Value) (base : Heap) : Prop where
  fn : ∀ n x, L.nm n = some x → ∃ a, L.fa n = some a ∧ mg x = some (.ref a)
  gc : ∀ g x d, L.gn g = some x → G.gc g = some d → ∃ u v, mg x = some u ∧ RelV v u ∧ ∀ hd H, Rp K hd H v d
  bl : ∀ x ∈ bnames, mg x = none
  rz : ∀ c x, L.cn c = some x → ∀ Y : Cx, Y.prog = P → Y.w = w → Y.K = K → Y.mg = mg → Y.base = base → Gl Y x → (x == ("__debug__" : Str)) = false → ∀ (m : Str) (j : Nat) (p p2 pos : Pos), L2N.PMk Y (.Call (.Name x p) [.Constant (.str m) j p2] [] pos) (fun _ H Q => Q (.ref (L.ca c)) none H)
  kd : ∀ g x t, L.kn g = some x → G.gk g = some t → ∃ d, mg x = some (.ref d) ∧ ∀ z y, t.lookup z = some y → ∃ v0, KDct K w d z v0 ∧ ∀ hd H, Rp K hd H v0 y
  le : ∀ k z, L.le = some z → TnH.LeP L.T G.er L.ca k P w K mg base z
  ea : ∀ c z, G.er c = some z → ascS z = true
/-- a def with lambdas: its code object, the table of that -/
def LamD (L : Link) (mg : Str → Option Value) (base : Heap) (x : Str) (fd : FuncData) : Prop := TnH.LamAtQ L.T base mg fd.code (x ++ ".<locals>.")
/-- a def of the table -/
structure DefOk (L : Link) (K : PySem.W.Frag) (mg : Str → Option Value) (base : Heap) (tab : Nat → Option Fn) (n : Nat) (a : Addr) : Prop where
  ex : ∃ (x : Str) (st : Stmt) (N ps : List Str) (fn : Fn) (fd : FuncData), tab n = some fn ∧ FunD K x x (defArgs st) (defBody st) (defScope st) [] [] a fd ∧ FnScope N ps (defScope st) ∧ fn.sl = N.length ∧ fn.ar = ps.length ∧ ckB L.toNms N (defScope st) fn.body (defBody st) = true ∧ Binds K fd ps [] ∧ (L.ls (defScope st).names = true → LamD L mg base x fd)
section
variable {L : Link} {G : Glob} {P : Program} {w : World} {K : PySem.W.Frag} {mg : Str → Option Value} {base : Heap} {tab : Nat → Option Fn} {fa : Nat → Option Addr} {av hd : List Addr} {H H0 : Hp}
theorem rvs_len {xs : List V} {vs : List SV} (h : RVs K fa av hd H0 H xs vs) : xs.length = vs.length := by
  induction h with
  | nil => rfl
  | cons _ _ ih => simp [ih]
theorem ren_start {N : List Str} {xs : List V} {args : List SV} (h : RVs K fa av hd H H xs args) (ha : args.all argOk = true) (hl : args.length ≤ N.length) : REn K fa av hd H (L2.start N xs) (initE N.length args) := by
  have e := rvs_len h
  refine ⟨by unfold initE L2.start; simp; omega, fun i v hi => ?_⟩
  have hget : ∀ {xs : List V} {args : List SV} {i : Nat} {v : SV}, RVs K fa av hd H H xs args → args.all argOk = true → args[i]? = some v → ∃ x, xs[i]? = some x ∧ RSl K fa av hd H x v := fun {xs args i v} h => by
    induction h generalizing i with
    | nil => intro _ e; simp at e
    | cons h1 _ ih =>
      intro ha e
      rw [List.all_cons, Bool.and_eq_true] at ha
      cases i with
      | zero =>
        simp at e
        subst e
        refine ⟨_, rfl, ?_⟩
        rename_i w ws _
        cases w with
        | own ds => simp [argOk] at ha
        | p ds => simp [argOk] at ha
        | d y => exact h1
        | h k => exact h1
        | f n => exact h1
        | s ns => exact h1
      | succ i => exact ih ha.2 (by simpa using e)
  unfold initE at hi
  by_cases hlt : i < args.length
  · rw [List.getElem?_append_left (by simpa using hlt), List.getElem?_map] at hi
    cases q : args[i]? with
    | none => rw [q] at hi; cases hi
    | some u =>
      rw [q] at hi
      cases hi
      obtain ⟨x, e1, e2⟩ := hget h ha q
      refine ⟨x, ?_, e2⟩
      unfold L2.start
      rw [List.getElem?_append_left (by rw [List.length_map, e]; exact hlt), List.getElem?_map, e1]; rfl
  · rw [List.getElem?_append_right (by simpa using hlt), List.getElem?_replicate] at hi
    split at hi <;> cases hi
theorem init_none {n : Nat} {args : List SV} {i : Nat} {ds : Ds} (ha : args.all argOk = true) : (initE n args)[i]? ≠ some (some (SV.own ds)) := by
  intro h
  unfold initE at h
  by_cases hlt : i < args.length
  · rw [List.getElem?_append_left (by simpa using hlt), List.getElem?_map] at h
    cases q : args[i]? with
    | none => rw [q] at h; cases h
    | some u =>
      rw [q] at h
      cases h
      have := List.all_eq_true.mp ha _ (List.mem_of_getElem? q)
      simp [argOk] at this
  · rw [List.getElem?_append_right (by simpa using hlt), List.getElem?_replicate] at h
    split at h <;> cases h
theorem bi_start {N : List Str} {xs : List V} {args : List SV} {m : Mem} (h : RVs K L.fa av hd H H xs args) (ha : args.all argOk = true) (hl : args.length ≤ N.length) (rm : RM L.T K av hd H m) : BI L K av hd H av hd (L2.start N xs) (initE N.length args) H m :=
  ⟨rm, ren_start h ha hl, ⟨[], by simp, fun _ z => by cases z⟩, fun _ h => h, fun _ h n => absurd h n, .refl, fun _ _ _ _ _ e => absurd e (init_none ha), fun _ _ _ e => absurd e (init_none ha)⟩
/-- what a call asks is what the body is to come to -/
theorem post_start {c : Nat → List SV → Mem → R SV} {fn : Fn} {args : List SV} {m : Mem} {Q : VK} {E : XK} (rm : RM L.T K av hd H m) (g : Good L K av hd H E (runF G c fn args m) (fun v _ H' => ∀ x, RV K L.fa av hd H H' x v → Q x H')) :
    args.length = fn.ar ∧ fn.ar ≤ fn.sl ∧ Post L K av hd H hd H { nx := fun _ H' => Q .non H', rt := Q } E (exB G c fn.body (initE fn.sl args) m) := by
  unfold runF at g
  split at g
  · rename_i hc
    refine ⟨hc.1, hc.2, ?_⟩
    cases q : exB G c fn.body (initE fn.sl args) m with
    | nx e m' =>
      rw [q] at g
      exact fun av' hd' σ' H' b _ => g H' b.gr (by rw [← rm.len]; exact b.rm.cut b.ex rm.sub b.hs) .non rp_non
    | rt v m' =>
      rw [q] at g
      exact fun x H' g1 r1 rv => g H' g1 (by rw [← rm.len]; exact r1) x rv
    | ex cc p m' =>
      rw [q] at g
      exact fun H' d g1 r1 xp => g H' d g1 (by rw [← rm.len]; exact r1) xp
    | no => rw [q] at g; exact g
  · exact g.elim
theorem lamD_at {L : Link} {mg : Str → Option Value} {base : Heap} {x : Str} {fd : FuncData} {cdv : Value} {b : Bool} (h8 : b = true → LamD L mg base x fd) (hcv : fd.code = cdv) (z : b = true) : TnH.LamAtQ L.T base mg cdv (x ++ ".<locals>.") := hcv ▸ h8 z
theorem funD_ok {x : Str} {st : Stmt} {a : Addr} {fd : FuncData} {CX : CXT} {N ps : List Str} {k : Nat} {sp : Sp} (F : FunD K x x (defArgs st) (defBody st) (defScope st) [] [] a fd) (S : FnScope N ps (defScope st)) (len : ∀ vs H Q E, sp vs H Q E → vs.length = ps.length)
    (hbody : ∀ (cdv : Value), fd.code = cdv → ∀ (A : Around) (outer : List Env) (s : Shared) (H : Hp) (vs : List V) (Q : VK) (E : XK), Room k (A.deeper (envOfC x (defScope st) s.heap.objs.size a cdv)) → sp vs H Q E →
      ∃ t, PSs (cxOf CX P w K mg base N x (defScope st) a cdv A outer s H E) (defBody st) t ∧ t { nx := fun _ H' => Q .non H', rt := Q } (L2.start N vs) H) : FnOk P w K mg base CX (k + 1) a fd ps sp := by
  obtain ⟨oc, od, dV, kV, doc, pm, an, cdv, ct, osl, rfl, lk, hcd, _, _⟩ := F.ex
  exact fn_of lk hcd S len fun A outer s H vs Q E hr hsp => hbody cdv rfl A outer s H vs Q E hr hsp
theorem fn_zero {n : Nat} {a : Addr} {fd : FuncData} {ps : List Str} {k : Nat} : FnOk P w K mg base (L2N.CX P w) k a fd ps (spF L K (callN G tab 0) n) := by
  have no : ∀ {vs H Q E}, spF L K (callN G tab 0) n vs H Q E → False := fun h => by
    obtain ⟨av, hd, m, args, _, _, _, g⟩ := h
    exact g
  exact ⟨fun _ _ _ _ h => (no h).elim, fun _ _ _ _ _ _ _ _ _ _ _ _ _ h => (no h).elim⟩
theorem knot (B : LF0 L G P w K mg base) (hD : ∀ n a, L.fa n = some a → DefOk L K mg base tab n a) : ∀ (j n : Nat) (a : Addr), L.fa n = some a → PySem.W.keepIn K (.ref a) = true ∧ ∃ fd ps, Binds K fd ps [] ∧ FnOk P w K mg base (L2N.CX P w) (7 * j) a fd ps (spF L K (callN G tab j) n)
  | 0, n, a, h => by
    obtain ⟨x, st, N, ps, fn, fd, h1, h2, h3, h4, h5, h6, h7, h8⟩ := (hD n a h).ex
    exact ⟨h2.kp, fd, ps, h7, fn_zero⟩
  | j + 1, n, a, h => by
    obtain ⟨x, st, N, ps, fn, fd, h1, h2, h3, h4, h5, h6, h7, h8⟩ := (hD n a h).ex
    refine ⟨h2.kp, fd, ps, h7, ?_⟩
    have lf : LF L G (callN G tab j) (7 * j) P w K mg base := ⟨B.fn, fun n a h => knot B hD j n a h, B.gc, B.bl, B.rz, B.kd, B.le _, B.ea⟩
    have un : ∀ {args : List SV} {m : Mem}, callN G tab (j + 1) n args m = runF G (callN G tab j) fn args m := fun {args m} => by
      show (match tab n with | some fn => runF G (callN G tab j) fn args m | none => .no) = _
      rw [h1]
    have e5 : 7 * (j + 1) = (7 * j + 6) + 1 := by omega
    rw [e5]
    refine funD_ok h2 h3 (fun vs H Q E hs => ?_) (fun cdv hcv A outer s H vs Q E hr hs => ?_)
    · obtain ⟨av, hd, m, args, a1, a2, a3, a4⟩ := hs
      rw [un] at a4
      rw [rvs_len a2, (post_start a3 a4).1, h5]
    · obtain ⟨av, hd, m, args, a1, a2, a3, a4⟩ := hs
      rw [un] at a4
      obtain ⟨b1, b2, b3⟩ := post_start a3 a4
      refine ⟨_, pss_w, ?_⟩
      have S : Sok L G (callN G tab j) (7 * j) (cxOf (L2N.CX P w) P w K mg base N x (defScope st) a cdv A outer s H E) E :=
        ⟨⟨lf, rfl, h3.nd, hr.mono (by omega), L2N.takes_of rfl rfl rfl rfl, fun z => ⟨lamD_at h8 hcv z, hr⟩⟩, passes_of rfl, fun _ _ => rfl, h3.kind⟩
      have hb := snd_b S fn.body h6
      rw [h4] at b3
      exact hb av hd H av hd (L2.start N vs) (initE N.length args) H m _ a3.sub (bi_start a2 a1 (by rw [b1, ← h4]; exact b2) a3) b3
theorem knot_at (B : LF0 L G P w K mg base) (hD : ∀ n a, L.fa n = some a → DefOk L K mg base tab n a) (j : Nat) {n : Nat} {a : Addr} {x : Str} {st : Stmt} {N ps : List Str} {fn : Fn} {fd : FuncData} (h1 : tab n = some fn) (h2 : FunD K x x (defArgs st) (defBody st) (defScope st) [] [] a fd) (h3 : FnScope N ps (defScope st))
    (h4 : fn.sl = N.length) (h5 : fn.ar = ps.length) (h6 : ckB L.toNms N (defScope st) fn.body (defBody st) = true) (h8 : L.ls (defScope st).names = true → LamD L mg base x fd) : FnOk P w K mg base (L2N.CX P w) (7 * j) a fd ps (spF L K (callN G tab j) n) := by
  cases j with
  | zero => exact fn_zero
  | succ j =>
    have lf : LF L G (callN G tab j) (7 * j) P w K mg base := ⟨B.fn, fun n a h => knot B hD j n a h, B.gc, B.bl, B.rz, B.kd, B.le _, B.ea⟩
    have un : ∀ {args : List SV} {m : Mem}, callN G tab (j + 1) n args m = runF G (callN G tab j) fn args m := fun {args m} => by
      show (match tab n with | some fn => runF G (callN G tab j) fn args m | none => .no) = _
      rw [h1]
    have e5 : 7 * (j + 1) = (7 * j + 6) + 1 := by omega
    rw [e5]
    refine funD_ok h2 h3 (fun vs H Q E hs => ?_) (fun cdv hcv A outer s H vs Q E hr hs => ?_)
    · obtain ⟨av, hd, m, args, a1, a2, a3, a4⟩ := hs
      rw [un] at a4
      rw [rvs_len a2, (post_start a3 a4).1, h5]
    · obtain ⟨av, hd, m, args, a1, a2, a3, a4⟩ := hs
      rw [un] at a4
      obtain ⟨b1, b2, b3⟩ := post_start a3 a4
      have S : Sok L G (callN G tab j) (7 * j) (cxOf (L2N.CX P w) P w K mg base N x (defScope st) a cdv A outer s H E) E :=
        ⟨⟨lf, rfl, h3.nd, hr.mono (by omega), L2N.takes_of rfl rfl rfl rfl, fun z => ⟨lamD_at h8 hcv z, hr⟩⟩, passes_of rfl, fun _ _ => rfl, h3.kind⟩
      have hb := snd_b S fn.body h6
      rw [h4] at b3
      exact ⟨_, pss_w, hb av hd H av hd (L2.start N vs) (initE N.length args) H m _ a3.sub (bi_start a2 a1 (by rw [b1, ← h4]; exact b2) a3) b3⟩
end
end Tn

set_option maxRecDepth 100000
set_option maxHeartbeats 2000000
/-! TnH1: lists walked, pairs taken apart, while an exception is handled. -/
namespace TnH
open PySem PySem.Spec PyProof.Rows L2 HotX L2H
section
variable {prog : Program} {w : World} {A : Around} {E : Value → Shared → Prop} {s : Shared}
theorem stop_hot {α : Type} {y : Addr} {Q : α → Shared → Prop} (hot : HotAt A y s.heap)
    (h : ∀ g e, (∀ b o, s.heap.get? b = some o → g.get? b = some o) → (∃ o, g.get? e = some o ∧ o.cls = .type "StopIteration") → E (.ref e) { s with heap := g }) :
    wpAny (model prog w) A (newExc (.type "StopIteration") []) (fun e s' => wpAny (model prog w) A (raiseNew e : Sem α) Q E s') E s := by
  obtain ⟨hh, oy, vy, gy, dy, cy⟩ := hot
  simp only [newExc, newTuple]
  refine wpAny_bind (wpAny_newObj_type ?_ (by size_fits))
  refine wpAny_bind (m := firstArgMember _ _) (wpAny_of_eq (a := Value.none) (by first | rfl | (simp only [firstArgMember]; rfl)) (wpAny_newObj_type ?_ (by size_fits)))
  have gy' := Heap.get?_push_of_some { cls := .type "tuple", data := .seq ([] : List Value).toArray } gy
  refine raiseNew_hot ⟨hh, oy, vy, Heap.get?_push_of_some _ gy', dy, cy⟩ (Nat.ne_of_lt (Heap.lt_size gy')) (Heap.get?_push_size _ rfl) rfl (by first | (simp; done) | (simp; omega) | (simp only [Array.size_append]; simp; omega)) ?_
  refine h _ _ (fun b o e => ?_) ⟨_, Heap.get?_update_self _ (Heap.get?_push_size _ rfl) rfl, rfl⟩
  have e' := Heap.get?_push_of_some { cls := .type "tuple", data := .seq ([] : List Value).toArray } e
  rw [Heap.get?_update_other _ _ (Nat.ne_of_gt (Heap.lt_size e'))]
  exact Heap.get?_push_of_some _ e'
/-- a record other than the handled one changes -/
theorem hot_other {y b : Addr} {g : Heap} (hot : HotAt A y s.heap) (hs : Heap.SameBut b s.heap g) (n : y ≠ b) : HotAt A y g := by
  obtain ⟨hh, oy, vy, gy, r⟩ := hot
  exact ⟨hh, oy, vy, (hs.2 y n).trans gy, r⟩
theorem list_stop {j l y : Addr} {i : Nat} {xs : Array Value} {Q : Value → Shared → Prop} (hot : HotAt A y s.heap) (n : y ≠ j) (hj : s.heap.IsListIter j l i) (hl : s.heap.IsList l xs) (hx : xs[i]? = none)
    (hE : ∀ g e, Heap.ExtBut j s.heap g → (∃ o, g.get? e = some o ∧ o.cls = .type "StopIteration") → E (.ref e) { s with heap := g }) :
    wpAny (model prog w) A (Builtin.SmallTypes.nextOf (.ref j)) Q E s := by
  have ty := hj.typeIs
  obtain ⟨oj, gj, cj, dj⟩ := hj
  obtain ⟨ol, gl, _, nl, dl⟩ := hl
  unfold Builtin.SmallTypes.nextOf
  refine wpAny_bind (wpAny_callSpecial?_slot (name := Str.ofString "__next__") ty slot_listiter_next (wpAny_call_entry slot_listiter_next ty entry_listiter_next (?_ : wpAny _ _ (field (.ref j) 0 >>= _) _ _ s) (args_listiter_next _)))
  refine wpAny_bind (wpAny_field gj dj (x := .ref l) rfl (?_ : wpAny _ _ (if (Value.ref l == Value.none) = true then _ else _) _ _ s))
  rw [if_neg (by intro z; cases z)]
  refine wpAny_bind (m := field (.ref j) 1) (wpAny_field gj dj (x := .int i 0) rfl ?_)
  refine wpAny_bind (m := seqItems? (.ref l)) (wpAny_seqItems gl dl ?_)
  simp only [Int.toNat_natCast, hx]
  refine wpAny_bind (wpAny_rule (wpAny_bind (wpAny_setField gj dj (by simp) ?_)))
  have sb := Heap.SameBut.update s.heap j (Obj.mapFields (·.setIfInBounds 0 Value.none))
  refine wpAny_bind (m := newExc (.type "StopIteration") []) (stop_hot (hot_other hot sb n) fun g e k1 k2 => ?_)
  exact hE g e (fun b o nb eb => k1 b o (sb.extBut b o nb eb)) k2
end
/-- a list's iterator, drawn from where y is handled -/
theorem draws_list {prog : Program} {w : World} {A : Around} {j l y : Addr} (n1 : l ≠ j) (n2 : y ≠ j) (xs : Array Value) :
    Draws prog w A j [j, l, y] xs.size (fun i v => xs[i]? = some v) (fun i h => (h.IsListIter j l i ∧ h.IsList l xs) ∧ HotAt A y h) where
  live := fun _ _ st => let ⟨o, ho, _⟩ := st.1.1; ⟨o, ho⟩
  frame := fun _ _ _ st k => ⟨⟨st.1.1.at fun o e => k j (by simp) o e, st.1.2.at fun o e => k l (by simp) o e⟩, let ⟨hh, o, v, g, r⟩ := st.2; ⟨hh, o, v, k y (by simp) o g, r⟩⟩
  item := fun i s Q E hi st hQ => by
    refine wpAny_nextOf_list_item st.1.1 st.1.2 (x := xs[i]) (by simp [hi]) fun g hj' sb => ?_
    exact hQ _ g s.toks (by simp [hi]) ⟨⟨hj', st.1.2.extBut sb.extBut n1⟩, hot_other st.2 sb n2⟩ sb
  done := fun s Q E st hE => list_stop st.2 n2 st.1.1 st.1.2 (by simp) hE
/-- the lists at a and b, in pairs; the end is told with both lengths -/
def Itp (K : PySem.W.Frag) (a b : Addr) : L2.It :=
  ⟨(Itz K a b).go, (Itz K a b).yld, fun i H => ∃ xs ys : List V, SqL K H a xs ∧ SqL K H b ys ∧ i ≤ xs.length ∧ i ≤ ys.length ∧ (i = xs.length ∨ i = ys.length)⟩
abbrev zipAt (z t u j k a b : Addr) (i : Nat) (h : Heap) : Prop := IsZip h z t u .none ∧ IsPair h t (.ref j) (.ref k) ∧ (∃ x y, IsPair h u x y) ∧ h.IsListIter j a i ∧ h.IsListIter k b i
section
variable {X : Cx} {pins : List (Addr × Obj)} {σ : L2.St} {H : Hp} {s : Shared} {E : Value → Shared → Prop} {z t u j k a b : Addr} {i : Nat}
theorem five {c : Addr} (h : c ∈ [z, t, u, j, k]) : c = z ∨ c = t ∨ c = u ∨ c = j ∨ c = k := by simpa using h
theorem zip_item {elts : List Expr} {kk : Nat} {tp : Pos} (D : ZipApart z t u j k a b) (I : Inv X pins σ H s) (hf : ∀ c ∈ [z, t, u, j, k], FpOk X pins H c) (st : zipAt z t u j k a b i s.heap) (hg : (Itp X.K a b).go i H) :
    wpAny (model X.prog X.w) X.A (pyNext (.ref z)) (fun r s1 => ∃ v, r = some v ∧
      wpAny (model X.prog X.w) X.A (letOwnedTupleGo (.Tuple elts kk tp) (.ref z) v) (fun _ s2 => ∃ x G, Inv X pins σ G s2 ∧ RelV x v ∧ (Itp X.K a b).yld i H x G ∧ zipAt z t u j k a b (i + 1) s2.heap ∧ ∀ c ∈ [z, t, u, j, k], G c = none) E s1) E s := by
  obtain ⟨gz, gt, ⟨x0, y0, gu⟩, lj, lk⟩ := st
  obtain ⟨xs, ys, x, y, sx, sy, ex, ey⟩ := hg
  obtain ⟨us, rx, px, _⟩ := I.list sx
  obtain ⟨vs, ry, py, _⟩ := I.list sy
  obtain ⟨ux, eux, rux⟩ := rx.get ex
  obtain ⟨uy, euy, ruy⟩ := ry.get ey
  refine wpAny_pyNext_zip_item D gz gt gu lj lk px.isList py.isList (x := ux) (y := uy) (by simpa using eux) (by simpa using euy) fun g1 z1 u1 j1 k1 T1 _ keep1 => ⟨_, rfl, wpAny_letOwnedTupleGo_zip (s := { s with heap := g1 }) z1 fun g2 z2 sb => ?_⟩
  have nz : ∀ c, c ≠ z → g2.get? c = g1.get? c := fun c n => sb.2 c n
  have k2 : ∀ c o, c ∉ [z, t, u, j, k] → s.heap.get? c = some o → g2.get? c = some o := fun c o n e => by
    simp only [List.mem_cons, List.not_mem_nil, or_false, not_or] at n
    rw [nz c n.1]
    exact keep1 c o n.1 n.2.2.1 n.2.2.2.1 n.2.2.2.2 e
  have szz : z ≠ s.heap.objs.size := Nat.ne_of_lt (Heap.lt_size gz)
  have gT : g2.get? s.heap.objs.size = some { cls := .type "tuple", data := .seq #[ux, uy] } := (nz _ szz.symm).trans T1
  have okT : ObjOk X.prog X.w (upd H s.heap.objs.size (.tup [x, y])) g2 s.heap.objs.size (.tup [x, y]) := ⟨by show 2 ≤ sizeLine; decide, [ux, uy], .cons rux (.cons ruy .nil), ⟨_, gT, rfl, _, rfl⟩⟩
  have J := I.turnedNew (t' := s.toks) k2 hf (Nat.le_refl _) okT
  refine ⟨.ref s.heap.objs.size, _, J, rfl, ⟨_, x, y, rfl, I.hok.fresh (Nat.le_refl _), rfl, fun l hl => ?_, fun l hl => ?_⟩, ⟨z2, (nz _ D.TIz).trans (keep1 _ _ D.TIz D.TITO D.TIi1 D.TIi2 gt), ⟨ux, uy, (nz _ D.TOz).trans u1⟩, j1.at fun o q => (nz _ D.i1z).trans q, k1.at fun o q => (nz _ D.i2z).trans q⟩, fun c hc => ?_⟩
  · rw [I.list_inj hl sx]; exact ex
  · rw [I.list_inj hl sy]; exact ey
  · have lt : c < s.heap.objs.size := by
      rcases five hc with q | q | q | q | q <;> rw [q]
      · exact Heap.lt_size gz
      · exact Heap.lt_size gt
      · exact Heap.lt_size gu
      · obtain ⟨_, q, _⟩ := lj; exact Heap.lt_size q
      · obtain ⟨_, q, _⟩ := lk; exact Heap.lt_size q
    rw [upd_ne (Nat.ne_of_lt lt)]
    exact (hf c hc).1
theorem zip_stop (D : ZipApart z t u j k a b) (hc : HotC X) (I : Inv X pins σ H s) (hf : ∀ c ∈ [z, t, u, j, k], FpOk X pins H c) (st : zipAt z t u j k a b i s.heap) (hg : (Itp X.K a b).stop i H) :
    wpAny (model X.prog X.w) X.A (pyNext (.ref z)) (fun r s1 => r = none ∧ Inv X pins σ H s1) E s := by
  obtain ⟨gz, gt, ⟨x0, y0, gu⟩, lj, lk⟩ := st
  obtain ⟨xs, ys, sx, sy, h1, h2, h3⟩ := hg
  obtain ⟨us, rx, px, _⟩ := I.list sx
  obtain ⟨vs, ry, py, _⟩ := I.list sy
  obtain ⟨p, ⟨hh, vp, ep, cp⟩, hp⟩ := hc
  have P1 := (I.pin p (List.mem_append_left _ hp)).1
  have np : ∀ c ∈ [z, t, u, j, k], p.1 ≠ c := fun c hc => (hf c hc).2.2.2.2.2 p (List.mem_append_left _ hp)
  have hot : HotAt X.A.in1 p.1 s.heap := ⟨hh, p.2, vp, P1, ep, cp⟩
  have D1 := draws_list (prog := X.prog) (w := X.w) (A := X.A.in1) (j := j) (l := a) (y := p.1) D.l1i1 (np j (by simp)) us.toArray
  have D2 := draws_list (prog := X.prog) (w := X.w) (A := X.A.in1) (j := k) (l := b) (y := p.1) D.l2i2 (np k (by simp)) vs.toArray
  have S : ZipSep2 z t u j k [j, a, p.1] [k, b, p.1] := by
    have nz := np z (by simp)
    have nu := np u (by simp)
    have nj := np j (by simp)
    have nk := np k (by simp)
    refine ⟨D.TIz, D.TOz, D.TITO, D.TIi1, by simp, ?_, ?_, D.TIi2, by simp, ?_, ?_, ?_, ?_⟩ <;>
      simp only [List.mem_cons, List.not_mem_nil, or_false, not_or]
    · exact ⟨D.i1z.symm, D.l1z.symm, nz.symm⟩
    · exact ⟨D.TOi1, D.l1TO.symm, nu.symm⟩
    · exact ⟨D.i2z.symm, D.l2z.symm, nz.symm⟩
    · exact ⟨D.TOi2, D.l2TO.symm, nu.symm⟩
    · exact ⟨D.i12, D.l2i1.symm, nj.symm⟩
    · exact ⟨D.i12.symm, D.l1i2.symm, nk.symm⟩
  have e1 : us.toArray.size = xs.length := by simp [rx.length]
  have e2 : vs.toArray.size = ys.length := by simp [ry.length]
  refine wpAny_pyNext_zipD2_end S D1 D2 gz gt gu ⟨⟨lj, px.isList⟩, hot⟩ ⟨⟨lk, py.isList⟩, hot⟩ (by omega) (by omega) (by rw [e1, e2]; exact h3) fun g tk keep => ⟨rfl, I.turnedL (t' := tk) (ch := [z, t, u, j, k]) (fun c o n e => ?_) hf⟩
  simp only [List.mem_cons, List.not_mem_nil, or_false, not_or] at n
  exact keep c o n.1 n.2.2.1 n.2.2.2.1 n.2.2.2.2 e
end
section
variable {prog : Program} {w : World} {A : Around} {E : Value → Shared → Prop} {s : Shared}
theorem tuple_stop {j t y : Addr} {i : Nat} {xs : Array Value} {Q : Option Value → Shared → Prop} (hot : HotAt A y s.heap) (n : y ≠ j) (hj : IsTupIter s.heap j t i) (ht : IsTup s.heap t xs) (hx : xs[i]? = none)
    (hQ : ∀ g, Heap.ExtBut j s.heap g → Q none { s with heap := g }) : wpAny (model prog w) A (pyNext (.ref j)) Q E s := by
  have ty := hj.typeIs
  obtain ⟨oj, gj, cj, dj⟩ := hj
  obtain ⟨ot, gt, _, nt, dt⟩ := ht
  unfold pyNext
  refine wpAny_bind (wpAny_attempt (wpAny_callSpecial?_slot (name := Str.ofString "__next__") ty slot_tupleiter_next (wpAny_call_entry slot_tupleiter_next ty entry_tupleiter_next (?_ : wpAny _ _ (field (.ref j) 0 >>= _) _ _ s) (args_tupleiter_next _))))
  refine wpAny_bind (wpAny_field gj dj (x := .ref t) rfl (?_ : wpAny _ _ (if (Value.ref t == Value.none) = true then _ else _) _ _ s))
  rw [if_neg (by intro z; cases z)]
  refine wpAny_bind (m := field (.ref j) 1) (wpAny_field gj dj (x := .int i 0) rfl ?_)
  refine wpAny_bind (m := seqItems? (.ref t)) (wpAny_seqItems gt dt ?_)
  simp only [Int.toNat_natCast, hx]
  refine wpAny_bind (wpAny_rule (wpAny_bind (wpAny_setField gj dj (by simp) ?_)))
  have sb := Heap.SameBut.update s.heap j (Obj.mapFields (·.setIfInBounds 0 Value.none))
  refine wpAny_bind (m := newExc (.type "StopIteration") []) (stop_hot (hot_other hot sb n) fun g e k1 k2 => ?_)
  obtain ⟨oe, ge, ce⟩ := k2
  exact wpAny_bind (wpAny_isInstance (T := "StopIteration") (b := true) ⟨oe, ge, ce⟩ isSubtype_stop (wpAny_pure (hQ g fun b o nb eb => k1 b o (sb.extBut b o nb eb))))
theorem apart_tuple {env : Env} {es : List Expr} {m : Nat} {pos : Pos} {t y : Addr} {xs : Array Value} {Q : Unit → Shared → Prop} (hot : HotAt A y s.heap) (ht : IsTup s.heap t xs) (hn : (assignEach es env).length = xs.size) (hs : (assignEach es env).findIdx? (·.1) = none)
    (h : ∀ g, Heap.ExtBut s.heap.objs.size s.heap g → wpAny (model prog w) A (assignInOrder ((assignEach es env).map (·.2)) xs.toList) Q E { s with heap := g }) :
    wpAny (model prog w) A (assign (.Tuple es m pos) env (.ref t)) Q E s := by
  have nt : t ≠ s.heap.objs.size := by obtain ⟨o, e, _⟩ := ht; exact Nat.ne_of_lt (Heap.lt_size e)
  have ny : y ≠ s.heap.objs.size := by obtain ⟨_, o, _, e, _⟩ := hot; exact Nat.ne_of_lt (Heap.lt_size e)
  rw [assign_Tuple]
  refine wpAny_bind (wpAny_standAt ?_)
  unfold unpack
  rw [hn, hs]
  refine wpAny_bind (wpAny_holding ?_)
  unfold unpackItems notIterableAtAll
  refine wpAny_bind (wpAny_bind (wpAny_specialOf ht.typeIs slot_tuple_iter.lookup (wpAny_pure ?_)))
  simp only [Bool.false_eq_true, if_false]
  refine wpAny_bind (wpAny_holding (iter_tuple ht (wpAny_bind (wpAny_holding (draw_tuple nt xs.size 0 _ _ ⟨_, Heap.get?_push_size _ rfl, rfl, rfl⟩ (ht.push _) (by omega) fun g1 j1 sb1 => ?_)))))
  rw [show List.take xs.size (List.drop 0 xs.toList) = xs.toList by rw [List.drop_zero]; exact List.take_of_length_le (by simp), if_neg (by simp)]
  have hot1 : HotAt A y g1 := by
    obtain ⟨hh, oy, vy, gy, r⟩ := hot
    exact ⟨hh, oy, vy, sb1.extBut _ _ ny (Heap.get?_push_of_some _ gy), r⟩
  refine wpAny_bind (wpAny_holding (tuple_stop hot1 ny j1 ((ht.push _).extBut sb1.extBut nt) (by simp) fun g2 eb => ?_))
  simp only [Option.isSome_none, Bool.false_eq_true, if_false]
  exact wpAny_pure (h g2 fun b o nb e => eb b o nb (sb1.extBut b o nb (Heap.get?_push_of_some _ e)))
end
/-- a tuple taken apart -/
theorem pg_tupH {X : Cx} {es : List Expr} {k : Nat} {t : TGs} {n : Nat} {pos : Pos} (hc : HotC X) (h : PGs X es t) (hn : (assignEach es X.env).length = n := by rfl) (hs : (assignEach es X.env).findIdx? (·.1) = none := by rfl) : PG X (.Tuple es k pos) (gTup X.K n t) := by
  refine ⟨fun pins s σ H v u Q I r hw => ?_⟩
  obtain ⟨a, xs, rfl, sq, hl, hw⟩ := hw
  cases r
  obtain ⟨us, rv, tt, _⟩ := I.tuple sq
  obtain ⟨y, hot⟩ := hc.at I
  refine apart_tuple hot tt (by simp [hn, ← hl, rv.length]) hs fun g eb => ?_
  have J : Inv X pins σ H { s with heap := g } := I.kept (t' := s.toks) fun b o e => eb b o (Nat.ne_of_lt (Heap.lt_size e)) e
  exact h.run pins _ σ H xs _ Q J (by simpa using rv) hw
end TnH

set_option maxRecDepth 100000
set_option maxHeartbeats 2000000
/-! TnH2: a list comprehension over zip of two lists, while an exception is handled. -/
namespace TnH
open PySem PySem.Spec PyProof.Rows L2 HotX L2H
/-- the block's context, the handled exception pinned -/
abbrev blkH (X : Cx) (s : Shared) (H : Hp) (sc : Scope) (ce : Env) (fp : List Addr) (p : Addr × Obj) : Cx := { X.blk s H sc ce fp with pn := [p] }
theorem blk_pin {X : Cx} {s : Shared} {H0 : Hp} {sc : Scope} {ce : Env} {fp : List Addr} {p : Addr × Obj} {σ : L2.St} {H : Hp} {s' : Shared} (I : Inv (X.blk s H0 sc ce fp) [] σ H s')
    (h : s'.heap.get? p.1 = some p.2 ∧ H p.1 = none ∧ p.1 ≠ ce.locals ∧ p.1 ∉ frs X.stack ∧ ∀ v, p.2.data ≠ .cell v) : Inv (blkH X s H0 sc ce fp p) [] σ H s' :=
  ⟨⟨I.ok.mod, I.ok.kind, I.ok.glob, I.ok.blt, I.ok.above, I.ok.inj, I.ok.has, I.ok.cab, I.ok.hd, I.ok.frames, I.ok.stk, I.ok.exf, I.ok.bs, I.ok.bsz, I.ok.noex, I.ok.exfs, I.ok.funs, I.ok.frf⟩,
    I.os, I.bare, I.base, I.loc, I.cell, I.free, I.freeC, fun q hq => by
      have : q = p := by simpa using (show q ∈ [p] ++ ([] : List (Addr × Obj)) from hq)
      rw [this]; exact h, I.hok, I.len⟩
/-- zip(a, b), as it has come -/
def PZ (X : Cx) (pins : List (Addr × Obj)) (σ : L2.St) (R : Addr → Addr → Hp → Prop) (v : Value) (s : Shared) : Prop :=
  ∃ (z t u j k a b : Addr) (G : Hp), v = .ref z ∧ Inv X pins σ G s ∧ ZipApart z t u j k a b ∧ zipAt z t u j k a b 0 s.heap ∧ (∀ c ∈ [z, t, u, j, k], FpOk X pins G c) ∧ R a b G
def tZp (K : PySem.W.Frag) (ta : TA) (R : Addr → Addr → Hp → Prop) : L2.St → Hp → Prop := fun σ H => ta σ H fun vs G => ∃ a b xs ys, vs = [.ref a, .ref b] ∧ SqL K G a xs ∧ SqL K G b ys ∧ R a b G
theorem zip_comes {X : Cx} {e f : Expr} {ta : TA} {p pos : Pos} (hg : Gl X "zip") (hm : X.mg "zip" = none) (ha : PA X [e, f] ta) (hs : starEach [e, f] X.env = (false, eval e X.env) :: starEach [f] X.env) (hp : (backTo pos (starEach [f] X.env)).any (·.1) = false)
    {pins : List (Addr × Obj)} {s : Shared} {σ : L2.St} {H : Hp} {R : Addr → Addr → Hp → Prop} (I : Inv X pins σ H s) (h : tZp X.K ta R σ H) :
    wpAny (model X.prog X.w) X.A (eval (.Call (.Name "zip" p) [e, f] [] pos) X.env) (fun v s1 => wpAny (model X.prog X.w) X.A (pyIter v) (PZ X pins σ R) X.xe s1) X.xe s := by
  refine Call_ (ld_blt I hg hm PyProof.Rows.boot_zip (PyProof.Rows.callWith_type1 (thn (ha.run pos pins s σ H _ I h) fun us s1 q => ?_) hs hp))
  obtain ⟨vs, G, J, rv, a, b, xs, ys, rfl, sx, sy, q⟩ := q
  cases rv with
  | cons ra rr => cases rr with
    | cons rb rn =>
      cases rn
      cases ra
      cases rb
      obtain ⟨us, _, px, _⟩ := J.list sx
      obtain ⟨ws, _, py, _⟩ := J.list sy
      refine call_zip_2 px.isList py.isList fun g gz gt gu lj lk _ keep => wpAny_pyIter_zip gz ?_
      refine ⟨_, _, _, _, _, a, b, G, rfl, J.kept (t' := s1.toks) keep, PySem.W.ktu_apart s1.heap.objs.size a b px.lt py.lt, ⟨gz, gt, ⟨_, _, gu⟩, lj, lk⟩, fun c hc => ?_, q⟩
      have le : s1.heap.objs.size ≤ c := by rcases five hc with w | w | w | w | w <;> (rw [w]; first | exact Nat.le_add_right _ _ | exact Nat.le_refl _)
      exact J.fpOk le (J.hok.fresh le)
def tLz (K : PySem.W.Frag) (ta : TA) (g : TG) (tt : TT) (te : TE) (vs : List Nat) : TE := fun σ H Q => tZp K ta (fun a b H1 => ∀ D, H1 D = none → ∃ W : Nat → Nat → Hp → Prop, (∃ m, W 0 m (upd H1 D (.lst []))) ∧ ∀ i m H, W i m H →
  ((Itp K a b).stop i H ∧ Q (.ref D) H) ∨ ((Itp K a b).go i H ∧ ∃ Nx : Hp → Prop, (∀ H', Nx H' → ∃ m', m' < m ∧ W (i + 1) m' H') ∧ ∀ x H', (Itp K a b).yld i H x H' → g x (wipe σ vs) H' fun σ2 H2 => wipe σ2 vs = wipe σ vs ∧ tt σ2 H2 fun b H3 =>
    if b = true then te σ2 H3 fun y H4 => ∃ acc, H4 D = some (.lst acc) ∧ acc.length < sizeLine ∧ Nx (upd H4 D (.lst (acc ++ [y]))) else Nx H3)) σ H
theorem pe_lz {X : Cx} {elt e f : Expr} {tes : List Expr} {kk : Nat} {ifs : List Expr} {scope : Scope} {own : List (Str × Nat)} {tp zp cp pos : Pos} {ta : TA} {g : TG} {tt : TT} {te : TE} (hc : HotC X) (hN : X.N.Nodup) (hz : Gl X "zip") (hm : X.mg "zip" = none) (ha : PA X [e, f] ta)
    (hst : starEach [e, f] X.env = (false, eval e X.env) :: starEach [f] X.env) (hpl : (backTo cp (starEach [f] X.env)).any (·.1) = false) (ok : BlkOk X.N X.env.scope scope own)
    (hg : ∀ (s : Shared) (H : Hp) (C : Addr) (cl : List (Str × Addr)) (fp : List Addr) (p : Addr × Obj), Hot1 X.A p → PG (blkH X s H scope (compEnvC scope cl C X.env) fp p) (.Tuple tes kk tp) g)
    (ht : ∀ (s : Shared) (H : Hp) (C : Addr) (cl : List (Str × Addr)) (fp : List Addr) (p : Addr × Obj), PTs (blkH X s H scope (compEnvC scope cl C X.env) fp p) ifs tt)
    (he : ∀ (s : Shared) (H : Hp) (C : Addr) (cl : List (Str × Addr)) (fp : List Addr) (p : Addr × Obj), PE (blkH X s H scope (compEnvC scope cl C X.env) fp p) elt te)
    (hf : ∀ x, foldedSetIterable (.Call (.Name "zip" zp) [e, f] [] cp) X.env x = pure x) :
    PE X (.ListComp elt [⟨.Tuple tes kk tp, .Call (.Name "zip" zp) [e, f] [] cp, ifs, 0⟩] scope pos) (tLz X.K ta g tt te (own.map (·.2))) := by
  refine ⟨fun pins s σ H Q I h => ?_⟩
  rw [eval_ListComp]
  have hfr : ∀ y ∈ scope.names, y.2 = .free → ∃ c, X.env.cells.lookup y.1 = some c := fun y hy q => I.ok.has _ (ok.free y hy q)
  refine wpAny_comprehension_free rfl hf (closure_ok hfr) ok.kind (fun y hy q => by rw [ok.uniq y hy, q]) (thn (zip_comes hz hm ha hst hpl I h) fun xv s1 hx => thn hx fun iv s2 h2 => ?_)
  obtain ⟨z, t, u, j, k, a, b, G, rfl, J, D, st, fz, q⟩ := h2
  refine wpAny_newObj_type (newEnv_comp ?_) (by show 0 ≤ sizeLine; decide)
  obtain ⟨p, hot, hp⟩ := hc
  have P0 := J.pin p (List.mem_append_left _ hp)
  generalize hL : s2.heap.objs.size = L
  have nL : G L = none := J.hok.fresh (Nat.le_of_eq hL)
  obtain ⟨W, ⟨m0, w0⟩, turn⟩ := q L nL
  -- the list is new
  generalize e3 : ({ s2 with heap := s2.heap.push { cls := .type "list", data := .seq ([] : List Value).toArray } } : Shared) = s3
  have h3 : s3.heap = s2.heap.push { cls := .type "list", data := .seq ([] : List Value).toArray } := by rw [← e3]
  have kp3 : ∀ c o, s2.heap.get? c = some o → s3.heap.get? c = some o := fun c o w => by rw [h3]; exact Heap.get?_push_of_some _ w
  have J3 : Inv X pins σ (upd G L (.lst [])) s3 := by
    rw [← e3]
    exact J.laid (t' := s2.toks) (fun c o w => Heap.get?_push_of_some _ w) (Nat.le_of_eq hL) ⟨Nat.zero_le _, [], 0, .nil, by rw [← hL]; exact Heap.get?_push_size _ rfl⟩
  have lt2 : ∀ c ∈ [z, t, u, j, k], c < s2.heap.objs.size := fun c hc => by
    obtain ⟨gz, gt, ⟨x0, y0, gu⟩, ⟨oj, gj, _⟩, ⟨ok', gk, _⟩⟩ := st
    rcases five hc with w | w | w | w | w <;> rw [w]
    · exact Heap.lt_size gz
    · exact Heap.lt_size gt
    · exact Heap.lt_size gu
    · exact Heap.lt_size gj
    · exact Heap.lt_size gk
  have f3 : ∀ c ∈ [z, t, u, j, k], FpOk X pins (upd G L (.lst [])) c ∧ c < s3.heap.objs.size := fun c hc => by
    have w := lt2 c hc
    exact ⟨⟨by rw [upd_ne (by rw [← hL]; exact Nat.ne_of_lt w)]; exact (fz c hc).1, (fz c hc).2⟩, by rw [h3, Heap.size_push]; exact Nat.lt_succ_of_lt w⟩
  have keepS : ∀ {i : Nat} {h h' : Heap}, zipAt z t u j k a b i h → (∀ c ∈ [z, t, u, j, k], ∀ o, h.get? c = some o → h'.get? c = some o) → zipAt z t u j k a b i h' := fun {i h h'} w kp => by
    obtain ⟨gz, gt, ⟨x0, y0, gu⟩, lj, lk⟩ := w
    exact ⟨kp _ (by simp) _ gz, kp _ (by simp) _ gt, ⟨x0, y0, kp _ (by simp) _ gu⟩, lj.at fun o w => kp _ (by simp) o w, lk.at fun o w => kp _ (by simp) o w⟩
  have objS : ∀ {i : Nat} {h : Heap}, zipAt z t u j k a b i h → ∀ c ∈ [z, t, u, j, k], ∃ o, h.get? c = some o ∧ ∀ v, o.data ≠ .cell v := fun {i h} w c hc => by
    obtain ⟨gz, gt, ⟨x0, y0, gu⟩, ⟨oj, gj, _, dj⟩, ⟨ok', gk, _, dk⟩⟩ := w
    rcases five hc with w | w | w | w | w <;> rw [w]
    · exact ⟨_, gz, fun v n => nomatch n⟩
    · exact ⟨_, gt, fun v n => nomatch n⟩
    · exact ⟨_, gu, fun v n => nomatch n⟩
    · exact ⟨oj, gj, fun v n => by rw [dj] at n; cases n⟩
    · exact ⟨ok', gk, fun v n => by rw [dk] at n; cases n⟩
  have st3 := keepS st fun c _ o w => kp3 c o w
  generalize hfp : [z, t, u, j, k] = fp at *
  have B4 := block_start J3 ok hN f3
  generalize ece : compEnvC scope (cellsFrom (s3.heap.objs.size + 1) scope.names (cloFrom X.env.cells scope.names [])) s3.heap.objs.size X.env = ce at B4
  have cL : ce.locals = s3.heap.objs.size := by subst ece; rfl
  have pg := hg s3 (upd G L (.lst [])) s3.heap.objs.size (cellsFrom (s3.heap.objs.size + 1) scope.names (cloFrom X.env.cells scope.names [])) fp p hot
  have pt := ht s3 (upd G L (.lst [])) s3.heap.objs.size (cellsFrom (s3.heap.objs.size + 1) scope.names (cloFrom X.env.cells scope.names [])) fp p
  have pe := he s3 (upd G L (.lst [])) s3.heap.objs.size (cellsFrom (s3.heap.objs.size + 1) scope.names (cloFrom X.env.cells scope.names [])) fp p
  rw [ece] at pg pt pe
  generalize e4 : ({ s3 with heap := pushCells (s3.heap.push { cls := .type "dict", data := .dict #[] }) scope.names } : Shared) = s4 at B4
  have kp4 : ∀ c o, s3.heap.get? c = some o → s4.heap.get? c = some o := fun c o w => by rw [← e4]; exact pushCells_keeps _ _ _ _ (Heap.get?_push_of_some _ w)
  have P3 := J3.pin p (List.mem_append_left _ hp)
  have C4 : Inv (blkH X s3 (upd G L (.lst [])) scope ce fp p) [] (wipe σ (own.map (·.2))) (upd G L (.lst [])) s4 :=
    blk_pin B4 ⟨kp4 _ _ P3.1, P3.2.1, by rw [cL]; exact Nat.ne_of_lt (Heap.lt_size P3.1), fun hm => (List.mem_cons.mp (J3.stkSub p.1 hm)).elim P3.2.2.1 P3.2.2.2.1, P3.2.2.2.2⟩
  have st4 : zipAt z t u j k a b 0 s4.heap := by subst hfp; exact keepS st3 fun c _ o w => kp4 c o w
  have hcB : HotC (blkH X s3 (upd G L (.lst [])) scope ce fp p) := ⟨p, hot, List.mem_singleton.mpr rfl⟩
  have npz : ∀ c ∈ fp, p.1 ≠ c := fun c hc => (fz c hc).2.2.2.2.2 p (List.mem_append_left _ hp)
  have stat : ∀ {σ' : L2.St} {H' : Hp} {s' : Shared}, Inv (blkH X s3 (upd G L (.lst [])) scope ce fp p) [] σ' H' s' → (∀ c ∈ fp, H' c = none) → ∀ c ∈ fp, FpOk (blkH X s3 (upd G L (.lst [])) scope ce fp p) [] H' c := fun {σ' H' s'} I' hn c hc =>
    ⟨hn c hc, (I'.ok.exf c hc).1, I'.ok.exfs c hc, .inl hc, fun x d w => (I'.ok.exf c hc).2 x d w, fun q hq => by
      have : q = p := by simpa using (show q ∈ [p] ++ ([] : List (Addr × Obj)) from hq)
      rw [this]; exact npz c hc⟩
  show codeAny _ _ (.compStart (.ListComp elt [⟨.Tuple tes kk tp, .Call (.Name "zip" zp) [e, f] [] cp, ifs, 0⟩] scope pos) 0 (.ref z) (.ref L) (compEnvC scope (cellsFrom (s3.heap.objs.size + 1) scope.names (cloFrom X.env.cells scope.names [])) s3.heap.objs.size X.env)) (compPost (model X.prog X.w) X.A X.xe none _ (.ref L) s3.heap.objs.size) s4
  rw [ece]
  suffices loop : codeAny (model X.prog X.w) X.A (.compLoop (.ListComp elt [⟨.Tuple tes kk tp, .Call (.Name "zip" zp) [e, f] [] cp, ifs, 0⟩] scope pos) 0 (.ref z) (.ref L) ce) (compPost (model X.prog X.w) X.A X.xe none (EP X pins σ Q) (.ref L) s3.heap.objs.size) s4 from codeAny_compStart_list loop (wpAny_pyIter_zip st4.1 loop)
  refine compLoop_any (fun n s' => ∃ i H', Inv (blkH X s3 (upd G L (.lst [])) scope ce fp p) [] (wipe σ (own.map (·.2))) H' s' ∧ zipAt z t u j k a b i s'.heap ∧ (∀ c ∈ fp, H' c = none) ∧ W i n H') ?_ m0 ⟨0, _, C4, st4, fun c hc => (f3 c hc).1.1, w0⟩
  rintro n s5 ⟨i, H5, I5, st5, n5, w5⟩
  have F5 := stat I5 n5
  rcases turn i n H5 w5 with ⟨stop, qq⟩ | ⟨go, Nx, hNx, step⟩
  · have td := zip_stop (E := fun _ _ => False) D hcB I5 (by rw [hfp]; exact F5) st5 stop
    refine thnF td fun r s6 ⟨hr, I6⟩ => ?_
    subst hr
    have I7 : Inv X pins σ H5 s6 := J3.call' (ch := fp) I6.os I6.base I6.hok I6.bare fun c hc => ⟨(f3 c hc).1.2.2.2.1, (f3 c hc).1.2.1, (f3 c hc).1.2.2.2.2.1, (f3 c hc).1.2.2.2.2.2⟩
    have nC : H5 s3.heap.objs.size = none := by rw [← cL]; exact I6.free
    obtain ⟨m, hn, _⟩ := I6.loc
    have hn : s6.heap.Ns ce.locals m := hn
    rw [cL] at hn
    refine ⟨m, hn, fun h'' sb => ?_⟩
    obtain ⟨y0, y1, y2, y3, y4, y5⟩ := J3.fpOk (Nat.le_refl _) nC
    exact ⟨.ref L, H5, I7.turned (t' := s6.toks) (fun c o hb w => (sb.2 c hb).trans w) y0 y1 y3 y4 y5, rfl, qq⟩
  · have ti := zip_item (elts := tes) (kk := kk) (tp := tp) (E := fun _ _ => False) D I5 (by rw [hfp]; exact F5) st5 go
    refine thnF ti fun r s6 ⟨v, hr, h6⟩ => ?_
    subst hr
    refine thnF h6 fun _ s7 ⟨x, H7, I7, r7, y7, st7, n7⟩ => ?_
    rw [hfp] at n7
    have ob7 := objS st7
    have I7' := I7.pinned (stat I7 n7) ob7
    refine thnF (pg.run _ s7 _ H7 x v _ I7' r7 (step x H7 y7)) fun _ s8 ⟨σ8, H8, I8, hw8, q8⟩ => ?_
    refine thnF (pt.run _ s8 σ8 H8 _ I8 q8) fun bb s9 ⟨H9, I9, q9⟩ => ?_
    have fin : ∀ {s' : Shared} {H' : Hp}, Inv (blkH X s3 (upd G L (.lst [])) scope ce fp p) ([] ++ pinsAt fp s7.heap) σ8 H' s' → Nx H' → ∃ m, m < n ∧ ∃ i H', Inv (blkH X s3 (upd G L (.lst [])) scope ce fp p) [] (wipe σ (own.map (·.2))) H' s' ∧ zipAt z t u j k a b i s'.heap ∧ (∀ c ∈ fp, H' c = none) ∧ W i m H' := fun {s' H'} I' nx => by
      obtain ⟨m', hm', w'⟩ := hNx H' nx
      have pin' : ∀ c ∈ fp, ∀ o, s7.heap.get? c = some o → s'.heap.get? c = some o ∧ H' c = none := fun c hc o w =>
        let y := I'.pin (c, o) (List.mem_append_right _ (List.mem_append_right _ (mem_pinsAt hc w)))
        ⟨y.1, y.2.1⟩
      refine ⟨m', hm', i + 1, H', (I'.unpinned (pins := [])).weak (by rw [← hw8, wipe_length]) (fun c v w => ?_), ?_, fun c hc => ?_, w'⟩
      · rw [← hw8] at w
        exact (wipe_some w).1
      · subst hfp
        exact keepS st7 fun c hc o w => (pin' c hc o w).1
      · obtain ⟨o, w, _⟩ := ob7 c hc
        exact (pin' c hc o w).2
    cases bb with
    | false =>
      simp only [Bool.false_eq_true, if_false] at q9 ⊢
      exact fin I9 q9
    | true =>
      simp only [if_true] at q9 ⊢
      refine thnF (pe.run _ s9 σ8 H9 _ I9 q9) fun y s10 ⟨yv, H10, I10, r10, acc, hD10, hz10, nx⟩ => ?_
      exact app_ok (X := blkH X s3 (upd G L (.lst [])) scope ce fp p) I10 hD10 hz10 r10 fun s11 I11 => fin I11 nx
end TnH

set_option maxRecDepth 100000
set_option maxHeartbeats 2000000
/-! TnH3: a lambda handed to a def, errors of own classes passing through it. -/
namespace TnH
open PySem PySem.Spec PyProof.Rows L2 LamX
section
variable {X : Cx} {pins : List (Addr × Obj)} {σ : L2.St} {H HZ : Hp} {s s1 : Shared}
theorem lam_new {T : List (Addr × Str)} {c P : Addr} {ps : Arguments} {bd : Expr} {scope : Scope} {pos : Pos} {E Q : Value → Shared → Prop} (I : Inv X pins σ H s) (TB : TabB X.base X.mg c P) (hcode : X.env.code = .ref c)
    (hm : (P, X.env.qual ++ "<lambda>") ∈ T) (hu : ∀ p ∈ T, p.1 = P → p.2 = X.env.qual ++ "<lambda>") (hT : Tabs T H) (hdef : defaultsOf ps X.env = ([], [])) (hfree : ∀ y ∈ scope.names, y.2 = .free → ∃ c, X.env.cells.lookup y.1 = some c)
    (h : ∀ (f d : Addr) (pm ct : Value) (G : Hp) (s' : Shared), Inv X pins σ G s' → Made T H G → s'.heap.get? f = some (PySem.W.kla_obj "<lambda>" (X.env.qual ++ "<lambda>") ps bd scope (cloFrom X.env.cells scope.names []) pm d ct) → G f = none → f ∉ frs X.stack → G d = some (CodeO d (X.env.qual ++ "<lambda>")) → Q (.ref f) s') :
    wpAny (model X.prog X.w) X.A (eval (.Lambda ps bd scope pos) X.env) Q E s := by
  obtain ⟨tb, gP, ok3, am⟩ := hT _ hm
  have rP : s.heap.get? P = some { cls := .none, data := .fields tb } := I.hok P _ gP
  have off : ∀ f, s.heap.objs.size ≤ f → f ∉ frs X.stack := fun f le z => by
    rcases List.mem_cons.mp (I.stkSub _ z) with e | e
    · exact absurd (Nat.lt_of_lt_of_le I.lt le) (by rw [e]; exact Nat.lt_irrefl _)
    · exact I.nofs le e
  refine PySem.W.kla_eval hdef ?_
  cases q : codeAmong pos tb.toList with
  | some cv =>
    obtain ⟨d, rfl, hd⟩ := am pos cv q
    refine PySem.W.kla_makeFunctionHit (mg := X.mg) (c := c) (P := P) (ps := tb) (closure_ok hfree) I.ok.glob (I.mod.glob.keeps I.bk) hcode (TB.code.keeps I.bk) rP ok3 q (TB.bm.keeps I.bk) fun ct g tk hx hsz => ?_
    have J : Inv X pins σ H { s with heap := g.push (PySem.W.kla_obj "<lambda>" (X.env.qual ++ "<lambda>") ps bd scope (cloFrom X.env.cells scope.names []) ((X.mg "__name__").getD .none) d ct), toks := tk } := I.kept fun b o e => Heap.get?_push_of_some _ (hx b o e)
    exact h g.objs.size d _ ct H _ J ⟨ExtN.refl H, fun _ w => w, hT⟩ (Heap.get?_push_size _ rfl) (I.hok.fresh hsz) (off _ hsz) hd
  | none =>
    refine PySem.W.kla_makeFunction (mg := X.mg) (c := c) (P := P) (ps := tb) (closure_ok hfree) I.ok.glob (I.mod.glob.keeps I.bk) hcode (TB.code.keeps I.bk) rP ok3 q TB.gP (TB.bm.keeps I.bk) fun d ct g tk hx hge hlt hrec htb => ?_
    obtain ⟨d2, oc, vs, t, e2, hoc, hdt, hv⟩ := hrec
    cases e2
    have le : s.heap.objs.size ≤ g.objs.size := Nat.le_trans hge (Nat.le_of_lt hlt)
    have nd : H d = none := I.hok.fresh hge
    have J := inv_table (t' := tk) (more := #[rawInt pos.line, rawInt pos.col, .ref d]) (h' := g.push (PySem.W.kla_obj "<lambda>" (X.env.qual ++ "<lambda>") ps bd scope (cloFrom X.env.cells scope.names []) ((X.mg "__name__").getD .none) d ct)) I gP
      (fun b o nb e => Heap.get?_push_of_some _ (hx b o nb e)) (Heap.get?_push_of_some _ htb) hge ⟨oc, vs, t, Heap.get?_push_of_some _ hoc, hdt, hv⟩
    have hE : ExtN H (upd (upd H P (.tbl (tb ++ #[rawInt pos.line, rawInt pos.col, .ref d]))) d (CodeO d (X.env.qual ++ "<lambda>"))) := fun b o e n => by
      have nb : b ≠ P := fun z => by rw [z, gP] at e; cases e; exact n tb rfl
      rw [upd_ne (ne_of_none e nd), upd_ne nb]
      exact e
    have hal : ∀ b, H b ≠ none → upd (upd H P (.tbl (tb ++ #[rawInt pos.line, rawInt pos.col, .ref d]))) d (CodeO d (X.env.qual ++ "<lambda>")) b ≠ none := fun b w => Tn.upd_al b (Tn.upd_al b w)
    have eL : (tb ++ #[rawInt pos.line, rawInt pos.col, .ref d]).toList = tb.toList ++ [rawInt pos.line, rawInt pos.col, .ref d] := by simp
    have hTb : Tabs T (upd (upd H P (.tbl (tb ++ #[rawInt pos.line, rawInt pos.col, .ref d]))) d (CodeO d (X.env.qual ++ "<lambda>"))) := fun p hp => by
      by_cases hb : p.1 = P
      · rw [hu p hp hb, hb]
        refine ⟨_, by rw [upd_ne (ne_of_none gP nd), upd_same], by rw [eL]; exact PySem.TriplesOk_snoc _ _ _ _ ok3, fun p' cv hcv => ?_⟩
        rw [eL] at hcv
        rcases among_app _ ok3 hcv with w | w
        · obtain ⟨c0, e1, e2⟩ := am p' cv w
          exact ⟨c0, e1, hE _ _ e2 codeO_ne⟩
        · exact ⟨d, w, upd_same⟩
      · obtain ⟨qs, a1, a2, a3⟩ := hT p hp
        refine ⟨qs, by rw [upd_ne (ne_of_none a1 nd), upd_ne hb]; exact a1, a2, fun p' cv hcv => ?_⟩
        obtain ⟨c0, e1, e2⟩ := a3 p' cv hcv
        exact ⟨c0, e1, hE _ _ e2 codeO_ne⟩
    refine h g.objs.size d _ ct _ _ J ⟨hE, hal, hTb⟩ (Heap.get?_push_size _ rfl) ?_ (off _ le) upd_same
    rw [upd_ne (Nat.ne_of_gt hlt), upd_ne (Nat.ne_of_gt (Nat.lt_of_lt_of_le (Heap.lt_size rP) le))]
    exact I.hok.fresh le
theorem lamN_inv {A : Around} {outer : List Env} {E : XK} {scope : Scope} {f d : Addr} {s2 : Shared} {G : Hp} (I : Inv (lamCx X A outer s H E scope f d) [] σ G s2) : Inv (lamN X A outer s H E scope f d) [] σ G s2 :=
  ⟨⟨I.ok.mod, I.ok.kind, I.ok.glob, I.ok.blt, I.ok.above, I.ok.inj, I.ok.has, I.ok.cab, I.ok.hd, I.ok.frames, I.ok.stk, I.ok.exf, I.ok.bs, I.ok.bsz, I.ok.noex, I.ok.exfs, I.ok.funs, I.ok.frf⟩, I.os, I.bare, I.base, I.loc, I.cell, I.free, I.freeC, I.pin, I.hok, I.len⟩
/-- x() in the def that got the lambda -/
theorem pe_actN {Eg : XK} {Ng : List Str} {qg : Str} {sg : Scope} {g f d : Addr} {cdg pm ct : Value} {ps : Arguments} {bd : Expr} {scope : Scope} {k i : Nat} {a : Str} {pn : List (Addr × Obj)} {xe : Value → Shared → Prop} {W : WX} {E : XK} {tb : TE} {p1 p2 : Pos}
    (I : Inv X pins σ H s) (L : LamS X.env.scope scope) (hf : s.heap.get? f = some (PySem.W.kla_obj "<lambda>" (X.env.qual ++ "<lambda>") ps bd scope (cloFrom X.env.cells scope.names []) pm d ct)) (hfn : H f = none) (hfr : f ∉ frs X.stack)
    (hbind : bindArgs (PySem.W.kla_fn "<lambda>" (X.env.qual ++ "<lambda>") ps bd scope (cloFrom X.env.cells scope.names []) pm (.ref d) ct) ⟨[], []⟩ = pure [])
    (tk : L2N.Takes ((cxOf (L2N.CX X.prog X.w) X.prog X.w X.K X.mg X.base Ng qg sg g cdg X.A X.stack s H Eg).tr pn xe) W) (hW : ∀ cls q σ' G, E cls q G → W cls q σ' G) (hr : Room (k + 1) (X.A.deeper (envOfC qg sg s.heap.objs.size g cdg)))
    (hbody : ∀ (A : Around) (outer : List Env) (s : Shared) (H : Hp), Room k (A.deeper (lamEnv X scope s.heap.objs.size f d)) → PE (lamN X A outer s H E scope f d) bd tb)
    (hN : Ng[i]? = some a) (hv : Vis sg a) (hd : (a == ("__debug__" : Str)) = false) (hcd : (a == ("__classdict__" : Str)) = false) :
    PE ((cxOf (L2N.CX X.prog X.w) X.prog X.w X.K X.mg X.base Ng qg sg g cdg X.A X.stack s H Eg).tr pn xe) (.Call (.Name a p1) [] [] p2)
      (fun τ G Q => τ[i]? = some (some (.ref f)) ∧ G d = some (CodeO d (X.env.qual ++ "<lambda>")) ∧ tb σ G Q) := by
  refine ⟨fun pz sz τ G Q Iz h => ?_⟩
  obtain ⟨ht, hco, hb⟩ := h
  refine wpAny_Call_Name_kw (thn ((pe_var (pos := p1) (i := i) hN hv hd hcd).run pz sz τ G (fun v G1 => v = .ref f ∧ G1 = G) Iz ⟨.ref f, ht, rfl, rfl⟩) fun u s1 q => ?_)
  obtain ⟨v, G1, I1, r1, rfl, rfl⟩ := q
  obtain rfl : u = Value.ref f := r1
  have o1 : s1.heap.get? f = some (PySem.W.kla_obj "<lambda>" (X.env.qual ++ "<lambda>") ps bd scope (cloFrom X.env.cells scope.names []) pm d ct) := I1.base.keep f _ hf hfn hfr (fun z => nomatch (show f ∈ ([] : List Addr) from z))
  have un : Un (frs X.stack) [] H G1 s.heap s1.heap := I1.base
  obtain ⟨⟨oc, vs, t, hoc, hdc, hvc⟩, _, _⟩ := I1.hok d _ hco
  have rc : codeAny (model X.prog X.w) (X.A.deeper (envOfC qg sg s.heap.objs.size g cdg)) (.call (.ref f) ⟨[], []⟩) (CR (L2N.CX X.prog X.w) (envOfC qg sg s.heap.objs.size g cdg :: X.stack) X.prog X.w G1 s1 Q E) s1 := by
    refine PySem.W.kla_callFunE hr.depth o1 rfl L.co L.gen rfl ⟨d, oc, vs, t, rfl, hoc, hdc, hvc⟩ ?_
    rw [hbind]
    refine wpAny_pure (wpAny_newFunctionEnv (fun y hy => (L.own y hy).2) (fun y hy => absurd hy (by simp)) (fun g1 hns hsb => ⟨I1.nolimit.fresh _ hsb, ?_⟩) L.kind)
    have keep : ∀ b o, s1.heap.get? b = some o → g1.get? b = some o := fun b o e => hsb.extBut b o (Nat.ne_of_lt (Heap.lt_size e)) (Heap.get?_push_of_some _ e)
    have J := lamN_inv (lam_start2 (A := X.A.deeper (envOfC qg sg s.heap.objs.size g cdg)) (outer := envOfC qg sg s.heap.objs.size g cdg :: X.stack) (E := E) (f := f) (c' := d) (tk := s1.toks + ([] : List (Str × Value)).length) I L I1.env0 hr.hd un hns keep)
    refine PySem.W.kla_codeExpr (wpAny_mono ((hbody _ _ s1 G1 (hr.deeper _)).run [] _ _ G1 Q J hb) (fun v s' hq => ?_) fun e s' hq => hq)
    obtain ⟨w', G', J', rv, q⟩ := hq
    exact ⟨w', G', J'.os, J'.bare, J'.base, J'.hok, rv, q⟩
  refine PySem.W.callWith_F0 ⟨_, _, _, _, o1⟩ (wpAny_call (codeAny_mono rc fun r s' hq => ?_))
  cases r with
  | error e => exact L2N.passes_call tk hW pz τ G1 s1 e s' I1 hq
  | ok fl => cases fl with
    | ret u => exact I1.after hq
    | next => exact False.elim hq
    | brk => exact False.elim hq
    | cont => exact False.elim hq
end
/-- the def that calls what it got -/
def Gives (X : Cx) (Ng : List Str) (x : Str) (sg : Scope) (g : Addr) (cdg : Value) (bg : List Stmt) (a : Str) (q : Str) (TT : (XK → Hp → VK → Prop) → Hp → VK → Prop) (k : Nat) : Prop :=
  ∀ (f d : Addr) (s : Shared) (H : Hp) (Q : VK) (tl : XK → Hp → VK → Prop), Room k (X.A.deeper (envOfC x sg s.heap.objs.size g cdg)) →
    (∀ (W : WX) (pn : List (Addr × Obj)) (xe : Value → Shared → Prop) (E : XK) (p1 p2 : Pos), L2N.Takes ((cxOf (L2N.CX X.prog X.w) X.prog X.w X.K X.mg X.base Ng x sg g cdg X.A X.stack s H (fun _ _ _ => False)).tr pn xe) W → (∀ cls q σ' G, E cls q G → W cls q σ' G) →
      PE ((cxOf (L2N.CX X.prog X.w) X.prog X.w X.K X.mg X.base Ng x sg g cdg X.A X.stack s H (fun _ _ _ => False)).tr pn xe) (.Call (.Name a p1) [] [] p2) (fun τ G Q => τ[0]? = some (some (.ref f)) ∧ G d = some (CodeO d q) ∧ tl E G Q)) →
    H d = some (CodeO d q) → TT tl H Q →
    ∃ t, PSs (cxOf (L2N.CX X.prog X.w) X.prog X.w X.K X.mg X.base Ng x sg g cdg X.A X.stack s H (fun _ _ _ => False)) bg t ∧ t { nx := fun _ G => Q .non G, rt := Q } (L2.start Ng [.ref f]) H
def tLamN (T : List (Addr × Str)) (TT : (XK → Hp → VK → Prop) → Hp → VK → Prop) (t : XK → TE) : TE := fun σ H Q => Tabs T H ∧ ∀ G, Made T H G → TT (fun E H' Q' => t E σ H' Q') G Q
/-- x(lambda: body) -/
theorem pe_lamN {X : Cx} {T : List (Addr × Str)} {TT : (XK → Hp → VK → Prop) → Hp → VK → Prop} {x a : Str} {g c P : Addr} {k : Nat} {pg : Arguments} {bg : List Stmt} {sg : Scope} {dV kV doc pm cdv ct oc : Value} {an od : Option Addr} {osl : Array (Option Value)} {Ng : List Str}
    {ps : Arguments} {bd : Expr} {scope : Scope} {t : XK → TE} {p lpos pos : Pos} (hg : Gl X x) (hm : X.mg x = some (.ref g)) (hk : PySem.W.keepIn X.K (.ref g) = true)
    (lk : X.K.lookup g = some ⟨oc, od, .func (PySem.W.fnOf x x pg bg sg dV kV doc pm an cdv ct), osl⟩) (hcg : PySem.W.codeIn X.K cdv x = true) (hb : L2.Binds X.K (PySem.W.fnOf x x pg bg sg dV kV doc pm an cdv ct) [a] []) (Sg : FnScope Ng [a] sg) (hNg : Ng[0]? = some a) (hva : Vis sg a)
    (hG : Gives X Ng x sg g cdv bg a (X.env.qual ++ "<lambda>") TT (k + 1))
    (TB : TabB X.base X.mg c P) (hcode : X.env.code = .ref c) (hmT : (P, X.env.qual ++ "<lambda>") ∈ T) (hu : ∀ p ∈ T, p.1 = P → p.2 = X.env.qual ++ "<lambda>") (hr : Room (k + 2) X.A) (L : LamS X.env.scope scope) (hdef : defaultsOf ps X.env = ([], []))
    (hbind : ∀ (q : Str) (cl : List (Str × Addr)) (pm cv ctv : Value), bindArgs (PySem.W.kla_fn "<lambda>" q ps bd scope cl pm cv ctv) ⟨[], []⟩ = pure [])
    (hbody : ∀ (A : Around) (outer : List Env) (s : Shared) (H : Hp) (E : XK) (f d : Addr), Room k (A.deeper (lamEnv X scope s.heap.objs.size f d)) → PE (lamN X A outer s H E scope f d) bd (t E))
    (hdb : (x == ("__debug__" : Str)) = false) (hd : (a == ("__debug__" : Str)) = false) (hcd : (a == ("__classdict__" : Str)) = false) :
    PE X (.Call (.Name x p) [.Lambda ps bd scope lpos] [] pos) (tLamN T TT t) := by
  refine ⟨fun pins s σ H Q I h => ?_⟩
  obtain ⟨hT, h⟩ := h
  refine wpAny_Call_Name_kw (ld_glob I hg hm (PySem.W.callWith_K (h₀ := X.base) I.ok.mod.kin hk (?_ : wpAny _ _ (spliced ((false, eval (.Lambda ps bd scope lpos) X.env) :: backTo pos (starEach [] X.env))) _ _ s) (by rfl) (by rfl)) hdb)
  refine Calls.spliced_cons (lam_new I TB hcode hmT hu hT hdef (L.has I.ok) fun f d pm' ctv G s' I1 md hf hfn hfr hco => Calls.spliced_nil ⟨I1.kIn, ?_⟩)
  have rc : codeAny (model X.prog X.w) X.A (.call (.ref g) ⟨[.ref f], []⟩) (CR (L2N.CX X.prog X.w) X.stack X.prog X.w G s' Q (fun _ _ _ => False)) s' := by
    refine run_ofS (N := Ng) (ps := [a]) (us := [.ref f]) (vs := [.ref f]) lk hcg Sg hr I1.env0 (hb s' [.ref f] I1.kIn rfl) (.cons rfl .nil) rfl fun hr' => ?_
    exact hG f d s' G Q (fun E H' Q' => t E σ H' Q') hr' (fun W pn xe E p1 p2 tk hW => pe_actN (i := 0) I1 L hf hfn hfr (hbind _ _ _ _ _) tk hW hr' (fun A outer s H hr2 => hbody A outer s H E f d hr2) hNg hva hd hcd) hco (h G md)
  refine wpAny_call (codeAny_mono rc fun r s2 hq => ?_)
  cases r with
  | error e =>
    obtain ⟨_, _, _, _, _, _, _, _, _, _, _, _, w⟩ := (show L2N.CX X.prog X.w X.stack G s' (fun _ _ _ => False) e s2 from hq)
    exact w.elim
  | ok fl => cases fl with
    | ret u => exact I1.after hq
    | next => exact False.elim hq
    | brk => exact False.elim hq
    | cont => exact False.elim hq
end TnH

set_option maxRecDepth 100000
set_option maxHeartbeats 2000000
/-! TnH4: the names of an error's classes; the def that catches what a lambda raises. -/
namespace TnH
open PySem PySem.Spec PyProof.Rows L2 L2H LamX
/-- isinstance of a pinned exception -/
theorem call_isP {X : Cx} {a D : Addr} {oe : Obj} (hp : (a, oe) ∈ X.pn) (C : ExcC X.K D) (hz : Zc (.ref D) none oe) (hf : ∃ vs, oe.data = .fields vs) : CallR X (.builtin "isinstance") (rIsE X.K D a) := by
  intro pins s σ H xs us Q I r h
  obtain ⟨c, cv, b, rfl, hcv, e, q⟩ := h
  cases r with
  | cons ra rr => cases rr with
    | cons rc rn =>
      cases rn
      cases ra
      rw [hcv _ rc]
      have gp := (I.pin (a, oe) (List.mem_append_left _ hp)).1
      obtain ⟨vs, ev⟩ := hf
      obtain ⟨o1, o2, o3, o4⟩ := oe
      obtain ⟨z1, z2⟩ := hz
      dsimp only at ev z1 z2
      subst ev z1 z2
      have J : PySem.W.InstAt s.heap a _ D none := ⟨gp, rfl, rfl, trivial⟩
      exact PySem.W.kia_one (PySem.W.handS_kitx_exc C.hg C.hk C.hs C.hd C.ha C.hn C.ht C.hm) I.kIn J e (fun z => nomatch z) fun tk => ⟨.bl b, H, I.kept (t' := tk) fun _ _ z => z, rfl, q⟩
/-- a def called where p is handled, its promise told of the very state -/
theorem run_ofH {CX : CXT} {P : Program} {w : World} {K : PySem.W.Frag} {mg : Str → Option Value} {base : Heap} {k : Nat} {f : Addr} {name qual : Str} {params : Arguments} {body : List Stmt} {scope : Scope} {dV kV doc pm cdv ct oc : Value} {an od : Option Addr} {osl : Array (Option Value)} {N ps : List Str}
    (lk : K.lookup f = some ⟨oc, od, .func (PySem.W.fnOf name qual params body scope dV kV doc pm an cdv ct), osl⟩) (hcd : PySem.W.codeIn K cdv qual = true) (S : FnScope N ps scope) {A : Around} {outer : List Env} {s : Shared} {H : Hp} {args : Args} {us : List Value} {vs : List V} {Q : VK} {E : XK} {p : Addr × Obj}
    (hr : RoomH (k + 1) A) (hpin : PinOk outer H s p) (e0 : Env0 P w K mg base A outer s H) (hb : BindsTo s (PySem.W.fnOf name qual params body scope dV kV doc pm an cdv ct) args (ps.zip us)) (r : Vals vs us) (hl : vs.length = ps.length)
    (hbody : ∃ t, PSs (cxH CX P w K mg base N qual scope f cdv A outer s H E p) body t ∧ t { nx := fun _ G => Q .non G, rt := Q } (L2.start N vs) H) : codeAny (model P w) A (.call (.ref f) args) (CR CX outer P w H s Q E) s := by
  have kin : K.In s.heap := e0.mod.kin.keeps fun b o e => (e0.bs b o e).1
  have lim : s.heap.NoLimit := e0.mod.nolimit.keeps fun b o e => (e0.bs b o e).1
  refine codeAny_call_function hr.depth (kin _ _ lk) rfl S.co S.gen rfl (PySem.W.codeRec_of kin hcd) (hb _ _ _ _ (wpAny_newFunctionEnv_cells S.kind (fun y hy => ?_) fun env he s1 x => ?_))
  · obtain ⟨n, v⟩ := y
    rcases S.par n (List.of_mem_zip hy).1 with q | q
    · exact .inl q
    · exact .inr ⟨q, PySem.W.cellsFrom_some _ _ _ (.inl q)⟩
  · subst he
    obtain ⟨t, ht, hq⟩ := hbody
    have I := inv_startH (CX := CX) (qual := qual) (f := f) (cd := cdv) (E := E) S hpin e0 hl r x
    refine ⟨lim.keeps x.toInCall.keep, codeAny_func (wpAny_mono (ht.run [] s1 (L2.start N vs) H _ I hq) (fun fl s' hs => ?_) fun e s' hs => hs)⟩
    cases fl with
    | ret u =>
      obtain ⟨v, σ', G, J, rv, q⟩ := hs
      exact ⟨v, G, J.os, J.bare, J.base, J.hok, rv, q⟩
    | next =>
      obtain ⟨σ', G, J, q⟩ := hs
      exact ⟨V.non, G, J.os, J.bare, J.base, J.hok, rfl, q⟩
    | brk =>
      obtain ⟨_, _, _, q⟩ := hs
      exact False.elim q
    | cont =>
      obtain ⟨_, _, _, q⟩ := hs
      exact False.elim q
/-- the def at g tells the names of an exception of the class at D -/
def NamesRun (P : Program) (w : World) (K : PySem.W.Frag) (mg : Str → Option Value) (base : Heap) (k : Nat) (g D : Addr) (nm : Str) : Prop :=
  ∀ (A : Around) (outer : List Env) (s : Shared) (H : Hp) (Q : VK) (p : Addr × Obj), RoomH k A → Hot1 A p → PinOk outer H s p → Zc (.ref D) none p.2 → Env0 P w K mg base A outer s H → (∀ G, (∀ b o, H b = some o → G b = some o) → Q (.str nm) G) →
    codeAny (model P w) A (.call (.ref g) ⟨[.ref p.1], []⟩) (CR (L2N.CX P w) outer P w H s Q (fun _ _ _ => False)) s
section
variable {X : Cx} {a g : Addr} {oe : Obj} {pn : List (Addr × Obj)} {x n : Str} {i k : Nat} {q q2 pos : Pos}
/-- names(e), e what the suite holds -/
theorem pe_names (hg : Gl X x) (hm : X.mg x = some (.ref g)) (hdb : (x == ("__debug__" : Str)) = false) (hk : PySem.W.keepIn X.K (.ref g) = true) (hr : RoomH k (X.A.mark (some (.ref a)))) (hN : X.N[i]? = some n) (hv : Vis X.env.scope n) (hd : (n == ("__debug__" : Str)) = false) (hcd : (n == ("__classdict__" : Str)) = false)
    {cls : Value} {d : Option Addr} (hz : L2N.Zn cls d oe) (hf : ∃ vs, oe.data = .fields vs) :
    PE (X.suite a ((a, oe) :: pn)) (.Call (.Name x q) [.Name n q2] [] pos) (fun σ H Q => (i < σ.length → σ[i]? = some (some (.ref a))) ∧ ∃ (D : Addr) (nm : Str), cls = .ref D ∧ d = none ∧ NamesRun X.prog X.w X.K X.mg X.base k g D nm ∧ ∀ (G : Hp), (∀ b o, H b = some o → G b = some o) → Q (.str nm) G) := by
  refine ⟨fun pins s σ H Q I h => ?_⟩
  obtain ⟨hs, D, nm, rfl, rfl, R, h⟩ := h
  have hg' : Gl (X.suite a ((a, oe) :: pn)) x := hg
  refine wpAny_Call_Name_kw (ld_glob I hg' hm (PySem.W.callWith_K (h₀ := X.base) I.ok.mod.kin hk (thn ((pa_cons (pe_var (X := X.suite a ((a, oe) :: pn)) hN hv hd hcd) pa_nil).run pos pins s σ H (fun vs G => vs = [.ref a] ∧ G = H) I ⟨.ref a, hs (I.len ▸ (List.getElem?_eq_some_iff.mp hN).1), rfl, rfl⟩) fun us s1 w => ?_) (by rfl) (by rfl)) hdb)
  obtain ⟨vs, G, J, rv, rfl, rfl⟩ := w
  refine ⟨J.kIn, ?_⟩
  rw [Vals.ref1 rv]
  have mem : (a, oe) ∈ (X.suite a ((a, oe) :: pn)).pn ++ pins := List.mem_append_left _ List.mem_cons_self
  have P1 := J.pin (a, oe) mem
  have hpin : PinOk (X.suite a ((a, oe) :: pn)).stack G s1 (a, oe) := ⟨P1.1, P1.2.1, fun hmm => (List.mem_cons.mp (J.stkSub a hmm)).elim P1.2.2.1 P1.2.2.2.1, P1.2.2.2.2⟩
  obtain ⟨vs, ev⟩ := hf
  refine wpAny_call (codeAny_mono (R _ _ s1 G Q (a, oe) hr ⟨rfl, vs, ev, hz.2.2 vs ev⟩ hpin hz.zc J.env0 h) fun r s2 hq => ?_)
  cases r with
  | error e =>
    obtain ⟨_, _, _, _, _, _, _, _, _, _, _, _, w⟩ := (show L2N.CX X.prog X.w X.stack G s1 (fun _ _ _ => False) e s2 from hq)
    exact w.elim
  | ok fl => cases fl with
    | ret u => exact J.after hq
    | next => exact False.elim hq
    | brk => exact False.elim hq
    | cont => exact False.elim hq
end
/-- told: try: a() / except x as n: return names(n); else the empty text -/
def tErr (P : Program) (w : World) (K : PySem.W.Frag) (mg : Str → Option Value) (base : Heap) (k : Nat) (gn CP : Addr) (ret : Str) : (XK → Hp → VK → Prop) → Hp → VK → Prop := fun tl H Q =>
  tl (fun cls d G => PySem.W.exmOne K cls (.ref CP) = some true ∧ ∃ (D : Addr) (nm : Str), cls = .ref D ∧ d = none ∧ NamesRun P w K mg base k gn D nm ∧ ∀ (G' : Hp), (∀ b o, G b = some o → G' b = some o) → Q (.str nm) G') H (fun _ G => Q (.str ret) G)
theorem gives_err {X : Cx} {Ng : List Str} {x a e n fn q ret : Str} {sg : Scope} {g gn CP : Addr} {cdg : Value} {i j k : Nat} {p1 p2 p3 p4 p5 p6 p7 p8 p9 p10 p11 p12 : Pos} (Sg : FnScope Ng [a] sg) (hi : Ng[i]? = some n) (hil : sg.names.lookup n = some .local)
    (hge : sg.names.lookup e = some .globalImplicit) (hme : X.mg e = some (.ref CP)) (hde : (e == ("__debug__" : Str)) = false) (hgf : sg.names.lookup fn = some .globalImplicit) (hmf : X.mg fn = some (.ref gn)) (hdf : (fn == ("__debug__" : Str)) = false) (hkf : PySem.W.keepIn X.K (.ref gn) = true)
    (hnd : (n == ("__debug__" : Str)) = false) (hnc : (n == ("__classdict__" : Str)) = false) (hi0 : i ≠ 0) (hlen : 0 < Ng.length) :
    Gives X Ng x sg g cdg [.Try [.Expr (.Call (.Name a p1) [] [] p2) p3] [.ExceptHandler (some (.Name e p4)) (some n) [.Return (some (.Call (.Name fn p5) [.Name n p6] [] p7)) p8] p9] [] [] p10, .Return (some (.Constant (.str ret) j p11)) p12] a q
      (tErr X.prog X.w X.K X.mg X.base k gn CP ret) k := by
  intro f d s H Q tl hr act hco h
  have hgl : Gl (cxOf (L2N.CX X.prog X.w) X.prog X.w X.K X.mg X.base Ng x sg g cdg X.A X.stack s H (fun _ _ _ => False)) e := hge
  have tk0 : L2N.Takes (cxOf (L2N.CX X.prog X.w) X.prog X.w X.K X.mg X.base Ng x sg g cdg X.A X.stack s H (fun _ _ _ => False)) (fun _ _ _ _ => False) := L2N.takes_of (E := fun _ _ _ => False) rfl rfl rfl rfl
  refine ⟨_, pss_cons (L2N.ps_try_as (i := i) (c := .ref CP) (Wout := fun _ _ _ _ => False)
    (tb := fun W D τ G => ∃ Ech : XK, (∀ (cls : Value) (d : Option Addr) (σ' : List (Option V)) (H' : Hp), Ech cls d H' → W cls d σ' H') ∧ τ[0]? = some (some (.ref f)) ∧ G d = some (CodeO d q) ∧ tl Ech G (fun _ H' => D.nx τ H'))
    (ts := fun aa cls dd D τ G => (i < τ.length → τ[i]? = some (some (.ref aa))) ∧ ∃ (DD : Addr) (nm : Str), cls = .ref DD ∧ dd = none ∧ NamesRun X.prog X.w X.K X.mg X.base k gn DD nm ∧ ∀ (G' : Hp), (∀ b o, G b = some o → G' b = some o) → D.rt (.str nm) G')
    rfl rfl Sg.nd hi hil ⟨hgl, hde, .inl hme⟩ tk0 (fun W pn xe tk _ => ?_) (fun aa oe cls dd pn hz hf => ?_)) (pss_one (ps_ret pe_str)), ?_⟩
  · refine ⟨fun pins s' τ G D I h' => ?_⟩
    obtain ⟨Ech, hW, h1, h2, h3⟩ := h'
    exact (pss_one (ps_expr (pos := p3) (act W pn xe Ech p1 p2 tk hW))).run pins s' τ G D I ⟨h1, h2, h3⟩
  · have hgl2 : Gl (cxOf (L2N.CX X.prog X.w) X.prog X.w X.K X.mg X.base Ng x sg g cdg X.A X.stack s H (fun _ _ _ => False)) fn := hgf
    refine pss_one (ps_ret (pe_names hgl2 hmf hdf hkf ⟨hr.dp, hr.un⟩ hi (.inl hil) hnd hnc hz hf))
  · refine ⟨fun cls dd G => PySem.W.exmOne X.K cls (.ref CP) = some true ∧ ∃ (D : Addr) (nm : Str), cls = .ref D ∧ dd = none ∧ NamesRun X.prog X.w X.K X.mg X.base k gn D nm ∧ ∀ (G' : Hp), (∀ b o, G b = some o → G' b = some o) → Q (.str nm) G', fun cls dd τ G w => ⟨true, w.1, fun _ aa _ => ⟨?_, w.2⟩, fun z => by cases z⟩, ?_, hco, h⟩
    · intro hlt
      rw [List.length_set] at hlt
      rw [List.getElem?_set_self hlt]
    · rfl
end TnH

set_option maxRecDepth 100000
set_option maxHeartbeats 2000000
/-! TnH5: the def that tells an exception's names, statement by statement. -/
namespace TnH
open PySem PySem.Spec PyProof.Rows L2 Tn
inductive NS | asg (cs : List Str) | add (cs : List Str) | app (c : Str)
def ckIs (en : Str) : List Str → List Expr → Bool
  | [], [] => true
  | c :: cs, v :: vs => (match v with
    | .Call (.Name x _) [.Name y _, .Name z _] [] _ => decide (x = ("isinstance" : Str)) && decide (en = y) && decide (c = z)
    | _ => false) && ckIs en cs vs
  | _, _ => false
def ckN (en sn : Str) : NS → Stmt → Bool
  | .asg cs, st => match st with
    | .Assign [.Name x _] (.List es _) _ => decide (sn = x) && ckIs en cs es
    | _ => false
  | .add cs, st => match st with
    | .Assign [.Name x _] (.BinOp (.Name y _) .Add (.List es _) _) _ => decide (sn = x) && decide (sn = y) && ckIs en cs es
    | _ => false
  | .app c, st => match st with
    | .Expr (.Call (.Attribute (.Name x _) m ap) [e] [] cp) _ => decide (sn = x) && decide (m = ("append" : Str)) && (ap.endLine == cp.line) && ckIs en [c] [e]
    | _ => false
def ckNs (en sn : Str) : List NS → List Stmt → Bool
  | [], [] => true
  | n :: ns, s :: ss => ckN en sn n s && ckNs en sn ns ss
  | _, _ => false
def nsVal (f : Str → Bool) : List Bool → List NS → List Bool
  | bs, [] => bs
  | bs, .asg cs :: ns => nsVal f (cs.map f) ns
  | bs, .add cs :: ns => nsVal f (bs ++ cs.map f) ns
  | bs, .app c :: ns => nsVal f (bs ++ [f c]) ns
def nsFit (on : Bool) : NS → Prop
  | .asg l => l.length ≤ 100
  | .add l => on = true ∧ l.length ≤ 100
  | .app _ => on = true
def nsAll (p : Str → Bool) : List NS → Bool
  | [] => true
  | .asg cs :: ns => cs.all p && nsAll p ns
  | .add cs :: ns => cs.all p && nsAll p ns
  | .app c :: ns => p c && nsAll p ns
/-- a class by its name, and whether the handled exception is of it -/
def ClsAt (X : Cx) (D : Addr) (c : Str) (b : Bool) : Prop := Gl X c ∧ (c == ("__debug__" : Str)) = false ∧ ∃ (v : V) (u : Value), ((X.mg c = some u) ∨ (X.mg c = none ∧ bootBuiltins c = some u ∧ c ≠ "__name__")) ∧ RelV v u ∧ (∀ u', RelV v u' → u' = u) ∧ PySem.W.kitOne X.K (.ref D) u = some b
section
variable {X : Cx} {a D : Addr} {oe : Obj} {en sn : Str} {f : Str → Bool}
structure NmX (X : Cx) (a D : Addr) (oe : Obj) (en sn : Str) (f : Str → Bool) (cs : Str → Bool) : Prop where
  nd : X.N.Nodup
  e0 : X.N[0]? = some en
  s1 : X.N[1]? = some sn
  pin : (a, oe) ∈ X.pn
  C : ExcC X.K D
  z : Zc (.ref D) none oe
  d : ∃ vs, oe.data = .fields vs
  ev : Vis X.env.scope en
  sv : X.env.scope.names.lookup sn = some .local
  ed : (en == ("__debug__" : Str)) = false ∧ (en == ("__classdict__" : Str)) = false
  sd : (sn == ("__debug__" : Str)) = false ∧ (sn == ("__classdict__" : Str)) = false
  ig : Gl X "isinstance"
  im : X.mg "isinstance" = none
  cl : ∀ c, cs c = true → ClsAt X D c (f c)
variable {cs : Str → Bool}
theorem pe_isx (M : NmX X a D oe en sn f cs) {c : Str} (hc : cs c = true) {p1 p2 p3 p4 : Pos} : PE X (.Call (.Name "isinstance" p1) [.Name en p2, .Name c p3] [] p4) (fun σ H Q => σ[0]? = some (some (.ref a)) ∧ Q (.bl (f c)) H) := by
  obtain ⟨hg, hdb, v, u, hm, rv, un, ek⟩ := M.cl c hc
  have hcl : PE X (.Name c p3) (tC v) := by
    rcases hm with hm | ⟨hm, hb, hn⟩
    · exact pe_glob hg hm rv hdb
    · exact pe_bltn hg hm hb rv hn hdb
  have base := pe_callB (p := p1) (pos := p4) (call_isP M.pin M.C M.z M.d) M.ig M.im PyProof.Rows.boot_isinstance (pa_cons (pe_var (pos := p2) M.e0 M.ev M.ed.1 M.ed.2) (pa_cons hcl pa_nil))
  exact ⟨fun pins s σ H Q I h => base.run pins s σ H Q I ⟨.ref a, h.1, v, u, f c, rfl, un, ek, h.2⟩⟩
theorem pa_isx (M : NmX X a D oe en sn f cs) : ∀ {l : List Str} {es : List Expr}, ckIs en l es = true → l.all cs = true → PA X es (fun σ H Q => σ[0]? = some (some (.ref a)) ∧ Q (l.map fun c => V.bl (f c)) H)
  | [], [], _, _ => ⟨fun pos pins s σ H Q I h => (pa_nil (X := X)).run pos pins s σ H Q I h.2⟩
  | c :: l, v :: es, h, hl => by
    unfold ckIs at h
    rw [Bool.and_eq_true] at h
    obtain ⟨h1, h2⟩ := h
    rw [List.all_cons, Bool.and_eq_true] at hl
    split at h1
    · simp only [Bool.and_eq_true, decide_eq_true_eq] at h1
      obtain ⟨⟨rfl, rfl⟩, rfl⟩ := h1
      exact ⟨fun pos pins s σ H Q I h => (pa_cons (pe_isx M hl.1) (pa_isx M h2 hl.2)).run pos pins s σ H Q I ⟨h.1, h.1, h.2⟩⟩
    · cases h1
  | [], _ :: _, h, _ => by unfold ckIs at h; cases h
  | _ :: _, [], h, _ => by unfold ckIs at h; cases h
/-- between the statements -/
structure NSt (X : Cx) (a : Addr) (H0 : Hp) (σ : L2.St) (H : Hp) (bs : List Bool) (on : Bool) : Prop where
  len : σ.length = X.N.length
  e : σ[0]? = some (some (.ref a))
  k : ∀ b o, H0 b = some o → H b = some o
  l : on = true → ∃ L, σ[1]? = some (some (.ref L)) ∧ H L = some (.lst (bs.map V.bl)) ∧ H0 L = none
theorem NSt.put {H0 H : Hp} {σ : L2.St} {bs bs' : List Bool} {on : Bool} {L : Addr} (h : NSt X a H0 σ H bs on) (h1 : 1 < X.N.length) (n : H L = none) : NSt X a H0 (σ.set 1 (some (.ref L))) (upd H L (.lst (bs'.map V.bl))) bs' true :=
  ⟨by rw [List.length_set]; exact h.len, by rw [List.getElem?_set_ne (by decide)]; exact h.e, fun b o e => by rw [upd_ne (ne_of_none (h.k b o e) n)]; exact h.k b o e, fun _ => ⟨L, List.getElem?_set_self (by rw [h.len]; exact h1), upd_same, by
    cases q : H0 L with
    | none => rfl
    | some o => rw [h.k _ _ q] at n; cases n⟩⟩
theorem ns_one (M : NmX X a D oe en sn f cs) {H0 : Hp} {n : NS} {st : Stmt} (h : ckN en sn n st = true) (hc : nsAll cs [n] = true) {σ : L2.St} {H : Hp} {bs : List Bool} {on : Bool} (hb : bs.length + 100 ≤ sizeLine) (hs : nsFit on n) (q0 : NSt X a H0 σ H bs on) {Dn : Ends} (q : ∀ σ' H', NSt X a H0 σ' H' (nsVal f bs [n]) true → Dn.nx σ' H') : wpS X st Dn σ H := by
  have h1 : 1 < X.N.length := (List.getElem?_eq_some_iff.mp M.s1).1
  have sn1 : Loc X.env.scope sn := .inl M.sv
  cases n with
  | asg l =>
    simp only [ckN] at h
    split at h
    · simp only [Bool.and_eq_true, decide_eq_true_eq] at h
      obtain ⟨rfl, h⟩ := h
      simp only [nsAll, Bool.and_true] at hc
      refine wpS_of (ps_set M.nd M.s1 sn1 (pe_lst (pa_isx M h hc)) rfl (.inr M.sv)) ⟨q0.e, by rw [List.length_map]; exact Nat.le_trans hs (by omega), fun p hp => ?_⟩
      rw [show (l.map fun c => V.bl (f c)) = (l.map f).map V.bl by rw [List.map_map]; rfl]
      exact q _ _ (q0.put h1 hp)
    · cases h
  | add l =>
    simp only [ckN] at h
    split at h
    · simp only [Bool.and_eq_true, decide_eq_true_eq] at h
      obtain ⟨⟨rfl, rfl⟩, h⟩ := h
      simp only [nsAll, Bool.and_true] at hc
      obtain ⟨ho, hs⟩ := hs
      obtain ⟨L, e1, e2, e3⟩ := q0.l ho
      refine wpS_of (ps_set M.nd M.s1 sn1 (pe_op op_cat (pe_var M.s1 (.inl M.sv) M.sd.1 M.sd.2) (pe_lst (pa_isx M h hc))) rfl (.inr M.sv)) ⟨.ref L, e1, q0.e, by rw [List.length_map]; exact Nat.le_trans hs (by omega), fun p hp => ?_⟩
      refine ⟨L, p, bs.map V.bl, l.map fun c => V.bl (f c), rfl, rfl, by rw [upd_ne (ne_of_none e2 hp)]; exact e2, upd_same, by rw [List.length_map, List.length_map]; omega, fun p2 hp2 => ?_⟩
      rw [show bs.map V.bl ++ (l.map fun c => V.bl (f c)) = (bs ++ l.map f).map V.bl by rw [List.map_append, List.map_map]; rfl]
      have q1 : NSt X a H0 σ (upd H p (.lst (l.map fun c => V.bl (f c)))) bs on := ⟨q0.len, q0.e, fun b o e => by rw [upd_ne (ne_of_none (q0.k b o e) hp)]; exact q0.k b o e, fun _ => ⟨L, e1, by rw [upd_ne (ne_of_none e2 hp)]; exact e2, e3⟩⟩
      exact q _ _ (q1.put h1 hp2)
    · cases h
  | app c =>
    simp only [ckN] at h
    split at h
    · simp only [Bool.and_eq_true, decide_eq_true_eq] at h
      obtain ⟨⟨⟨rfl, rfl⟩, hl⟩, h⟩ := h
      simp only [nsAll, Bool.and_true] at hc
      obtain ⟨L, e1, e2, e3⟩ := q0.l hs
      have hsh : ∀ e, ckIs en [c] [e] = true → sh e = true := fun e he => by
        unfold ckIs at he
        rw [Bool.and_eq_true] at he
        split at he
        · rfl
        · cases he.1
      have hs' := hsh _ h
      refine wpS_of (ps_expr (pe_bm F.plainAttrs_list F.slot_list_append F.type_list_append mt_append (pe_var M.s1 (.inl M.sv) M.sd.1 M.sd.2) (pa_isx M h (by rw [List.all_cons, hc]; rfl)) rfl (star_few (by simp [hs']) (by show 1 < 20; decide)) hl (star_ok hs') rfl)) ?_
      refine ⟨.ref L, e1, .inl ⟨rfl, bs.map V.bl, .of e2⟩, q0.e, L, bs.map V.bl, .bl (f c), rfl, rfl, e2, by rw [List.length_map]; omega, ?_⟩
      rw [show bs.map V.bl ++ [V.bl (f c)] = (bs ++ [f c]).map V.bl by rw [List.map_append]; rfl]
      have ne : ∀ b o, H0 b = some o → b ≠ L := fun b o e z => by rw [z, e3] at e; cases e
      exact q _ _ ⟨q0.len, q0.e, fun b o e => by rw [upd_ne (ne b o e)]; exact q0.k b o e, fun _ => ⟨L, e1, upd_same, e3⟩⟩
    · cases h
theorem ns_run (M : NmX X a D oe en sn f cs) {H0 : Hp} : ∀ {ns : List NS} {sts rest : List Stmt} {bs : List Bool} {on : Bool} {σ : L2.St} {H : Hp} {Dn : Ends}, ckNs en sn ns sts = true → nsAll cs ns = true → (∀ n ∈ ns, nsFit true n) → (∀ n r, ns = n :: r → nsFit on n) → bs.length + 200 * ns.length + 100 ≤ sizeLine → NSt X a H0 σ H bs on →
    (∀ σ' H', NSt X a H0 σ' H' (nsVal f bs ns) (on || !ns.isEmpty) → wpB X rest Dn σ' H') → wpB X (sts ++ rest) Dn σ H
  | [], [], rest, bs, on, σ, H, Dn, _, _, _, _, _, q0, q => q σ H (by rw [nsVal]; simpa using q0)
  | n :: ns, st :: sts, rest, bs, on, σ, H, Dn, h, hc, hf, h1, hb, q0, q => by
    unfold ckNs at h
    rw [Bool.and_eq_true] at h
    rw [List.length_cons] at hb
    have hc1 : nsAll cs [n] = true ∧ nsAll cs ns = true := by
      cases n <;> simp only [nsAll, Bool.and_eq_true, Bool.and_true] at hc ⊢ <;> exact hc
    have hn : nsFit true n := hf n (.head _)
    have hlen : (nsVal f bs [n]).length ≤ bs.length + 100 := by
      cases n with
      | asg l => simp only [nsVal, List.length_map]; have : l.length ≤ 100 := hn; omega
      | add l => simp only [nsVal, List.length_append, List.length_map]; have : l.length ≤ 100 := hn.2; omega
      | app c => simp only [nsVal, List.length_append, List.length_cons, List.length_nil]; omega
    refine wpB_of (pss_cons ps_w pss_w) (ns_one M h.1 hc1.1 (by omega) (h1 n ns rfl) q0 fun σ' H' q1 => ?_)
    refine ns_run M h.2 hc1.2 (fun x hx => hf x (.tail _ hx)) (fun x r e => hf x (by rw [e]; exact .tail _ (.head _))) (by omega) q1 fun σ'' H'' q2 => q σ'' H'' ?_
    have e : nsVal f bs (n :: ns) = nsVal f (nsVal f bs [n]) ns := by cases n <;> rfl
    rw [e]
    simpa using q2
  | [], _ :: _, _, _, _, _, _, _, h, _, _, _, _, _, _ => by unfold ckNs at h; cases h
  | _ :: _, [], _, _, _, _, _, _, h, _, _, _, _, _, _ => by unfold ckNs at h; cases h
def pickS : List Str → List Bool → List Str
  | w :: ws, b :: bs => if b then w :: pickS ws bs else pickS ws bs
  | _, _ => []
theorem pick_sum : ∀ {ws : List Str} {bs : List Bool}, ((pickS ws bs).map (·.length)).sum + (pickS ws bs).length ≤ (ws.map (·.length)).sum + ws.length
  | [], bs => by unfold pickS; simp
  | w :: ws, [] => by unfold pickS; simp
  | w :: ws, b :: bs => by
    have := pick_sum (ws := ws) (bs := bs)
    unfold pickS
    cases b <;> simp <;> omega
theorem pick_snoc : ∀ {ws : List Str} {bs : List Bool} {i : Nat} {w : Str} {b : Bool}, ws[i]? = some w → bs[i]? = some b → pickS (ws.take (i + 1)) (bs.take (i + 1)) = pickS (ws.take i) (bs.take i) ++ (if b then [w] else [])
  | [], _, _, _, _, h, _ => by simp at h
  | _ :: _, [], _, _, _, _, h => by simp at h
  | x :: ws, y :: bs, 0, w, b, h1, h2 => by
    simp at h1 h2
    subst h1 h2
    simp only [List.take_succ_cons, List.take_zero]
    unfold pickS
    cases y <;> simp [pickS]
  | x :: ws, y :: bs, i + 1, w, b, h1, h2 => by
    have := pick_snoc (ws := ws) (bs := bs) (i := i) (w := w) (b := b) (by simpa using h1) (by simpa using h2)
    rw [List.take_succ_cons, List.take_succ_cons, List.take_succ_cons, List.take_succ_cons]
    unfold pickS
    cases y <;> simp only [Bool.false_eq_true, if_false, if_true, this, List.cons_append]
end
end TnH

set_option maxRecDepth 100000
set_option maxHeartbeats 2000000
/-! TnH6: the words of the good ones, joined. -/
namespace TnH
open PySem PySem.Spec PyProof.Rows L2 HotX L2H Tn
section
variable {X : Cx} {a D : Addr} {oe : Obj} {en sn ln wn gn : Str} {f : Str → Bool} {cs : Str → Bool}
structure NmY (X : Cx) (ln wn gn : Str) (scope : Scope) : Prop where
  hot : HotC X
  l2 : X.N[2]? = some ln
  w3 : X.N[3]? = some wn
  g4 : X.N[4]? = some gn
  lv : X.env.scope.names.lookup ln = some .local
  ld : (ln == ("__debug__" : Str)) = false ∧ (ln == ("__classdict__" : Str)) = false
  wd : (wn == ("__debug__" : Str)) = false ∧ (wn == ("__classdict__" : Str)) = false
  gd : (gn == ("__debug__" : Str)) = false ∧ (gn == ("__classdict__" : Str)) = false
  ws : scope.names.lookup wn = some .local
  gs : scope.names.lookup gn = some .local
  zg : Gl X "zip"
  zm : X.mg "zip" = none
  blk : BlkOk X.N X.env.scope scope [(wn, 3), (gn, 4)]
theorem pick_len : ∀ {ws : List Str} {bs : List Bool}, (pickS ws bs).length ≤ ws.length
  | [], bs => by unfold pickS; simp
  | w :: ws, [] => by unfold pickS; simp
  | w :: ws, b :: bs => by
    have := pick_len (ws := ws) (bs := bs)
    unfold pickS
    cases b <;> simp <;> omega
def spc : Str := .ofString " "
theorem spc_len : spc.length = 1 := rfl
theorem pe_joinZ (M : NmX X a D oe en sn f cs) {scope : Scope} (Y : NmY X ln wn gn scope) {kk j1 j2 : Nat} {p1 p2 p3 p4 p5 p6 p7 p8 p9 p10 p11 p12 p13 p14 p15 p16 : Pos} (hl1 : (p2.endLine == p16.line) = true) (hl2 : (p8.endLine == p10.line) = true) :
    PE X (.Call (.Attribute (.Constant (.str spc) j1 p1) "join" p2) [.ListComp (.Name wn p3) [⟨.Tuple [.Name wn p4, .Name gn p5] kk p6, .Call (.Name "zip" p7) [.Call (.Attribute (.Name ln p9) "split" p8) [.Constant (.str spc) j2 p11] [] p10, .Name sn p12] [] p13, [.Name gn p14], 0⟩] scope p15] [] p16)
      (fun σ H Q => ∃ (H0 : Hp) (bs : List Bool) (lab : Str) (ws : List Str), NSt X a H0 σ H bs true ∧ σ[2]? = some (some (.str lab)) ∧ lab.length + 2 ≤ sizeLine ∧ Txt.split lab spc = ws ∧ ws.length = bs.length ∧ ws.length < 1000 ∧ (ws.map (·.length)).sum + ws.length ≤ 16777216 ∧
        ∀ G, (∀ b o, H0 b = some o → G b = some o) → Q (.str (Txt.join spc (pickS ws bs))) G) := by
  have hcomp : PE X (.ListComp (.Name wn p3) [⟨.Tuple [.Name wn p4, .Name gn p5] kk p6, .Call (.Name "zip" p7) [.Call (.Attribute (.Name ln p9) "split" p8) [.Constant (.str spc) j2 p11] [] p10, .Name sn p12] [] p13, [.Name gn p14], 0⟩] scope p15) _ :=
    pe_lz (g := gTup X.K 2 (gCons (gName 3) (gCons (gName 4) gNil))) (tt := tB (tVar 4)) (te := tVar 3) Y.hot M.nd Y.zg Y.zm (pa_cons (pe_split (pe_var Y.l2 (.inl Y.lv) Y.ld.1 Y.ld.2) pe_str rfl rfl hl2) (pa_cons (pe_var M.s1 (.inl M.sv) M.sd.1 M.sd.2) pa_nil)) rfl rfl Y.blk
      (fun s H C cl fp p hot => by
        have h1 : (blkH X s H scope (compEnvC scope cl C X.env) fp p).env.scope.names.lookup wn = some .local := lookup_relS_keep (sc := X.env.scope) (fun q => NameKind.noConfusion q) Y.ws
        have h2 : (blkH X s H scope (compEnvC scope cl C X.env) fp p).env.scope.names.lookup gn = some .local := lookup_relS_keep (sc := X.env.scope) (fun q => NameKind.noConfusion q) Y.gs
        exact pg_tupH (X := blkH X s H scope (compEnvC scope cl C X.env) fp p) ⟨p, hot, List.mem_singleton.mpr rfl⟩ (pgs_cons (pg_name M.nd Y.w3 (.inl h1) (.inr h1)) (pgs_cons (pg_name M.nd Y.g4 (.inl h2) (.inr h2)) pgs_nil)))
      (fun s H C cl fp p => by
        have h2 : (blkH X s H scope (compEnvC scope cl C X.env) fp p).env.scope.names.lookup gn = some .local := lookup_relS_keep (sc := X.env.scope) (fun q => NameKind.noConfusion q) Y.gs
        exact pts_one (pt_val (pe_var (X := blkH X s H scope (compEnvC scope cl C X.env) fp p) Y.g4 (.inl h2) Y.gd.1 Y.gd.2)))
      (fun s H C cl fp p => by
        have h1 : (blkH X s H scope (compEnvC scope cl C X.env) fp p).env.scope.names.lookup wn = some .local := lookup_relS_keep (sc := X.env.scope) (fun q => NameKind.noConfusion q) Y.ws
        exact pe_var (X := blkH X s H scope (compEnvC scope cl C X.env) fp p) Y.w3 (.inl h1) Y.wd.1 Y.wd.2)
      (fun x => rfl)
  refine ⟨fun pins s σ H Q I h => ?_⟩
  refine (pe_join (pe_str (j := j1)) hcomp rfl rfl hl1).run pins s σ H Q I ?_
  obtain ⟨H0, bs, lab, ws, st, e2, hsz, hw, hlen, hlt, hsum, q⟩ := h
  obtain ⟨L, l1, l2, l3⟩ := st.l rfl
  refine ⟨⟨_, rfl⟩, .str lab, e2, ⟨_, rfl⟩, lab, spc, rfl, rfl, rfl, hsz, fun p hp => ?_⟩
  rw [hw]
  have len3 : 3 < σ.length := by rw [st.len]; exact (List.getElem?_eq_some_iff.mp Y.w3).1
  have len4 : 4 < σ.length := by rw [st.len]; exact (List.getElem?_eq_some_iff.mp Y.g4).1
  have npL : L ≠ p := ne_of_none l2 hp
  refine ⟨.ref L, l1, p, L, ws.map V.str, bs.map V.bl, rfl, .of upd_same, .of (by rw [upd_ne npL]; exact l2), fun E hE => ?_⟩
  have hEp : E ≠ p := fun z => by rw [z, upd_same] at hE; cases hE
  have hEL : E ≠ L := fun z => by rw [z, upd_ne npL, l2] at hE; cases hE
  have n0 : ∀ b o, H0 b = some o → b ≠ p ∧ b ≠ E := fun b o e => by
    have k := st.k b o e
    refine ⟨ne_of_none k hp, fun z => ?_⟩
    rw [z] at k
    rw [upd_ne hEp, k] at hE
    cases hE
  refine ⟨fun i m G => i ≤ ws.length ∧ m = ws.length - i ∧ G p = some (.lst (ws.map V.str)) ∧ G L = some (.lst (bs.map V.bl)) ∧ G E = some (.lst ((pickS (ws.take i) (bs.take i)).map V.str)) ∧ ∀ b o, H0 b = some o → G b = some o, ⟨ws.length, Nat.zero_le _, rfl, ?_, ?_, ?_, ?_⟩, ?_⟩
  · rw [upd_ne (fun z => hEp z.symm)]; exact upd_same
  · rw [upd_ne (fun z => hEL z.symm), upd_ne npL]; exact l2
  · rw [upd_same]; simp [pickS]
  · intro b o e
    rw [upd_ne (n0 b o e).2, upd_ne (n0 b o e).1]
    exact st.k b o e
  · rintro i m G ⟨hi, rfl, g1, g2, g3, g4⟩
    by_cases hend : i = ws.length
    · left
      refine ⟨⟨ws.map V.str, bs.map V.bl, .of g1, .of g2, by rw [List.length_map]; exact hi, by rw [List.length_map, ← hlen]; exact hi, .inl (by rw [List.length_map]; exact hend)⟩, ?_⟩
      subst hend
      rw [List.take_length, hlen, List.take_length] at g3
      refine ⟨spc, E, pickS ws bs, rfl, rfl, .inl (.of g3), ?_, q G g4⟩
      have := pick_sum (ws := ws) (bs := bs)
      rw [spc_len]
      omega
    · right
      have hi1 : i < ws.length := by omega
      have hi2 : i < bs.length := by omega
      have x1 : (ws.map V.str)[i]? = some (.str ws[i]) := by rw [List.getElem?_map, List.getElem?_eq_getElem hi1]; rfl
      have x2 : (bs.map V.bl)[i]? = some (.bl bs[i]) := by rw [List.getElem?_map, List.getElem?_eq_getElem hi2]; rfl
      refine ⟨⟨_, _, _, _, .of g1, .of g2, x1, x2⟩, fun G' => ∃ m', m' < ws.length - i ∧ i + 1 ≤ ws.length ∧ m' = ws.length - (i + 1) ∧ G' p = some (.lst (ws.map V.str)) ∧ G' L = some (.lst (bs.map V.bl)) ∧ G' E = some (.lst ((pickS (ws.take (i + 1)) (bs.take (i + 1))).map V.str)) ∧ ∀ b o, H0 b = some o → G' b = some o, fun H' z => ?_, fun x H' hy => ?_⟩
      · obtain ⟨m', z1, z2⟩ := z
        exact ⟨m', z1, z2⟩
      · obtain ⟨T, u, v, rfl, hT, rfl, y1, y2⟩ := hy
        have eu := y1 _ (.of g1)
        have ev := y2 _ (.of g2)
        rw [x1] at eu
        rw [x2] at ev
        cases eu; cases ev
        have t1 : p ≠ T := ne_of_none g1 hT
        have t2 : L ≠ T := ne_of_none g2 hT
        have t3 : E ≠ T := ne_of_none g3 hT
        have ps := pick_snoc (i := i) (List.getElem?_eq_getElem hi1) (List.getElem?_eq_getElem hi2)
        have w3 : ((wipe σ [3, 4]).set 3 (some (.str ws[i]))).length = σ.length := by rw [List.length_set, wipe_length]
        refine ⟨T, [.str ws[i], .bl bs[i]], rfl, .of upd_same, rfl, _, _, rfl, _, _, rfl, rfl, ?_, .bl bs[i], ?_, bs[i], rfl, ?_⟩
        · refine wipe_eq (σ := σ) (vs := [3, 4]) (by rw [List.length_set]; exact w3) fun j hj => ?_
          have hj' : j ≠ 3 ∧ j ≠ 4 := by simpa using hj
          rw [List.getElem?_set_ne (fun z => hj'.2 z.symm), List.getElem?_set_ne (fun z => hj'.1 z.symm)]
          exact wipe_out hj
        · show (((wipe σ [3, 4]).set 3 (some (.str ws[i]))).set 4 (some (.bl bs[i])))[4]? = _
          rw [List.getElem?_set_self (by rw [w3]; exact len4)]
        · cases hb : bs[i] with
          | true =>
            rw [hb] at ps
            rw [if_pos rfl]
            refine ⟨.str ws[i], ?_, _, by rw [upd_ne t3]; exact g3, ?_, ws.length - (i + 1), by omega, by omega, rfl, ?_, ?_, ?_, ?_⟩
            · show (((wipe σ [3, 4]).set 3 (some (.str ws[i]))).set 4 _)[3]? = _
              rw [List.getElem?_set_ne (by decide), List.getElem?_set_self (by rw [wipe_length]; exact len3)]
            · rw [List.length_map]
              have a1 := pick_len (ws := ws.take i) (bs := bs.take i)
              have a2 : (ws.take i).length ≤ ws.length := by rw [List.length_take]; omega
              have a3 : (1000 : Nat) ≤ sizeLine := by decide
              omega
            · rw [upd_ne (fun z => hEp z.symm), upd_ne t1]; exact g1
            · rw [upd_ne (fun z => hEL z.symm), upd_ne t2]; exact g2
            · rw [upd_same, ps, List.map_append]; rfl
            · intro b o e
              rw [upd_ne (n0 b o e).2, upd_ne (ne_of_none (g4 b o e) hT)]
              exact g4 b o e
          | false =>
            rw [hb] at ps
            rw [if_neg (by decide)]
            refine ⟨ws.length - (i + 1), by omega, by omega, rfl, by rw [upd_ne t1]; exact g1, by rw [upd_ne t2]; exact g2, ?_, fun b o e => by rw [upd_ne (ne_of_none (g4 b o e) hT)]; exact g4 b o e⟩
            rw [upd_ne t3, ps]
            simpa using g3
end
/-- the tail: two texts, the words of the good ones -/
theorem tail_run {X : Cx} {a D : Addr} {oe : Obj} {en sn ln wn gn : Str} {f : Str → Bool} {cs : Str → Bool} (M : NmX X a D oe en sn f cs) {scope : Scope} (Y : NmY X ln wn gn scope) {kk j1 j2 j3 j4 : Nat} {p1 p2 p3 p4 p5 p6 p7 p8 p9 p10 p11 p12 p13 p14 p15 p16 q1 q2 q3 q4 q5 q6 q7 q8 q9 : Pos} {l1 l2 : Str} (hl1 : (p2.endLine == p16.line) = true) (hl2 : (p8.endLine == p10.line) = true)
    {H0 : Hp} {σ : L2.St} {H : Hp} {bs : List Bool} {Dn : Ends} (q0 : NSt X a H0 σ H bs true) (hz0 : l1.length + l2.length ≤ sizeLine) (hz : (l1 ++ l2).length + 2 ≤ sizeLine) {ws : List Str} (hw : Txt.split (l1 ++ l2) spc = ws) (h1 : ws.length = bs.length) (h2 : ws.length < 1000) (h3 : (ws.map (·.length)).sum + ws.length ≤ 16777216)
    (q : ∀ G, (∀ b o, H0 b = some o → G b = some o) → Dn.rt (.str (Txt.join spc (pickS ws bs))) G) :
    wpB X [.Assign [.Name ln q1] (.Constant (.str l1) j3 q2) q3, .Assign [.Name ln q4] (.BinOp (.Name ln q5) .Add (.Constant (.str l2) j4 q6) q7) q8,
      .Return (some (.Call (.Attribute (.Constant (.str spc) j1 p1) "join" p2) [.ListComp (.Name wn p3) [⟨.Tuple [.Name wn p4, .Name gn p5] kk p6, .Call (.Name "zip" p7) [.Call (.Attribute (.Name ln p9) "split" p8) [.Constant (.str spc) j2 p11] [] p10, .Name sn p12] [] p13, [.Name gn p14], 0⟩] scope p15] [] p16)) q9] Dn σ H := by
  have len2 : 2 < σ.length := by rw [q0.len]; exact (List.getElem?_eq_some_iff.mp Y.l2).1
  refine wpB_of (pss_cons (ps_set M.nd Y.l2 (.inl Y.lv) pe_str rfl (.inr Y.lv)) (pss_cons (ps_set M.nd Y.l2 (.inl Y.lv) (pe_op op_add_str (pe_var Y.l2 (.inl Y.lv) Y.ld.1 Y.ld.2) pe_str) rfl (.inr Y.lv)) (pss_one (ps_ret (pe_joinZ M Y hl1 hl2))))) ?_
  refine ⟨.str l1, List.getElem?_set_self len2, l1, l2, rfl, rfl, hz0, H0, bs, l1 ++ l2, ws, ⟨?_, ?_, q0.k, fun _ => ?_⟩, ?_, ?_, hw, h1, h2, h3, q⟩
  · rw [List.length_set, List.length_set]; exact q0.len
  · rw [List.getElem?_set_ne (by decide), List.getElem?_set_ne (by decide)]; exact q0.e
  · obtain ⟨L, e1, e2⟩ := q0.l rfl
    exact ⟨L, by rw [List.getElem?_set_ne (by decide), List.getElem?_set_ne (by decide)]; exact e1, e2⟩
  · rw [List.getElem?_set_self (by rw [List.length_set]; exact len2)]
  · exact hz
end TnH

set_option maxRecDepth 100000
set_option maxHeartbeats 2000000
/-! TnH7: that def tells the names. -/
namespace TnH
open PySem PySem.Spec PyProof.Rows L2 HotX L2H Tn
/-- what is asked of that def's text, by a Bool -/
def ckTail (N : List Str) (sn ln wn gn : Str) (l1 l2 : Str) (sc : Scope) : List Stmt → Bool
  | [.Assign [.Name x1 _] (.Constant (.str y1) _ _) _, .Assign [.Name x2 _] (.BinOp (.Name x3 _) .Add (.Constant (.str y2) _ _) _) _,
      .Return (some (.Call (.Attribute (.Constant (.str y3) _ _) m1 p2) [.ListComp (.Name x4 _) [⟨.Tuple [.Name x5 _, .Name x6 _] _ _, .Call (.Name z _) [.Call (.Attribute (.Name x7 _) m2 p8) [.Constant (.str y4) _ _] [] p10, .Name x8 _] [] _, [.Name x9 _], 0⟩] scope _] [] p16)) _] =>
    decide (ln = x1) && (decide (ln = x2) && (decide (ln = x3) && (decide (wn = x4) && (decide (wn = x5) && (decide (gn = x6) && (decide (ln = x7) && (decide (sn = x8) && (decide (gn = x9) && (decide (l1 = y1) && (decide (l2 = y2) && (decide (spc = y3) && (decide (spc = y4)
      && (decide (m1 = ("join" : Str)) && (decide (m2 = ("split" : Str)) && (decide (z = ("zip" : Str)) && ((p2.endLine == p16.line) && ((p8.endLine == p10.line) && (decide (scope.names.lookup wn = some .local) && (decide (scope.names.lookup gn = some .local)
      && blkC N sc scope [(wn, 3), (gn, 4)])))))))))))))))))))
  | _ => false
structure NTxt where
  en : Str
  sn : Str
  ln : Str
  wn : Str
  gn : Str
  l1 : Str
  l2 : Str
  ns : List NS
  cs : List Str
namespace NTxt
variable (t : NTxt)
def N : List Str := [t.en, t.sn, t.ln, t.wn, t.gn]
def plainN (x : Str) : Bool := !(x == ("__debug__" : Str)) && !(x == ("__classdict__" : Str))
def okB (st : Stmt) : Bool :=
  C8.scC t.N [t.en] (defScope st) && (ckNs t.en t.sn t.ns ((defBody st).take t.ns.length) && (ckTail t.N t.sn t.ln t.wn t.gn t.l1 t.l2 (defScope st) ((defBody st).drop t.ns.length) && (nsAll (fun c => decide (c ∈ t.cs)) t.ns && (t.N.all plainN
    && (decide ((defScope st).names.lookup t.en = some .local) && (decide ((defScope st).names.lookup t.sn = some .local) && (decide ((defScope st).names.lookup t.ln = some .local) && (decide ((defScope st).names.lookup ("isinstance" : Str) = some NameKind.globalImplicit) && (decide ((defScope st).names.lookup ("zip" : Str) = some NameKind.globalImplicit)
    && (t.cs.all (fun c => decide ((defScope st).names.lookup c = some .globalImplicit) && !(c == ("__debug__" : Str)))))))))))))
def fitB : NS → Bool
  | .asg l => decide (l.length ≤ 100)
  | .add l => decide (l.length ≤ 100)
  | .app _ => true
def sizeB : Bool := t.ns.all fitB && (match t.ns with | .asg _ :: _ => true | _ => false) && decide (200 * t.ns.length + 100 ≤ sizeLine) && decide (t.l1.length + t.l2.length ≤ sizeLine) && decide ((t.l1 ++ t.l2).length + 2 ≤ sizeLine)
def words : List Str := Txt.split (t.l1 ++ t.l2) spc
def wordB (f : Str → Bool) : Bool := decide (t.words.length = (nsVal f [] t.ns).length) && decide (t.words.length < 1000) && decide ((t.words.map (·.length)).sum + t.words.length ≤ 16777216)
def tells (f : Str → Bool) : Str := Txt.join spc (pickS t.words (nsVal f [] t.ns))
end NTxt
section
variable {P : Program} {w : World} {K : PySem.W.Frag} {mg : Str → Option Value} {base : Heap} {t : NTxt} {st : Stmt} {x : Str} {g D : Addr} {fd : FuncData} {f : Str → Bool}
theorem ckTail_run {X : Cx} {a : Addr} {oe : Obj} (M : NmX X a D oe t.en t.sn f (fun c => decide (c ∈ t.cs))) (hot : HotC X) (hN : X.N = t.N) (zg : Gl X "zip") (zm : X.mg "zip" = none) (lv : X.env.scope.names.lookup t.ln = some .local) (hp : t.N.all NTxt.plainN = true) {body : List Stmt}
    (h : ckTail t.N t.sn t.ln t.wn t.gn t.l1 t.l2 X.env.scope body = true) {H0 : Hp} {σ : L2.St} {H : Hp} {bs : List Bool} {Dn : Ends} (q0 : NSt X a H0 σ H bs true) (hz0 : t.l1.length + t.l2.length ≤ sizeLine) (hz : (t.l1 ++ t.l2).length + 2 ≤ sizeLine)
    (h1 : t.words.length = bs.length) (h2 : t.words.length < 1000) (h3 : (t.words.map (·.length)).sum + t.words.length ≤ 16777216) (q : ∀ G, (∀ b o, H0 b = some o → G b = some o) → Dn.rt (.str (Txt.join spc (pickS t.words bs))) G) : wpB X body Dn σ H := by
  unfold ckTail at h
  split at h
  · simp only [Bool.and_eq_true, decide_eq_true_eq] at h
    obtain ⟨rfl, rfl, rfl, rfl, rfl, rfl, rfl, rfl, rfl, rfl, rfl, e1, e2, rfl, rfl, rfl, hl1, hl2, w1, w2, hb⟩ := h
    subst e1 e2
    unfold NTxt.N NTxt.plainN at hp
    simp only [List.all_cons, List.all_nil, Bool.and_true, Bool.and_eq_true, Bool.not_eq_true'] at hp
    obtain ⟨_, _, hp3, hp4, hp5⟩ := hp
    refine tail_run M ⟨hot, by rw [hN]; rfl, by rw [hN]; rfl, by rw [hN]; rfl, lv, hp3, hp4, hp5, w1, w2, zg, zm, by rw [hN]; exact blkOk_by hb⟩ hl1 hl2 q0 hz0 hz rfl h1 h2 h3 q
  · cases h
theorem names_run {k : Nat} (F : FunD K x x (defArgs st) (defBody st) (defScope st) [] [] g fd) (hb : Binds K fd [t.en] []) (hok : t.okB st = true) (hsz : t.sizeB = true) (hwd : t.wordB f = true) (im : mg "isinstance" = none) (zm : mg "zip" = none) (C : ExcC K D)
    (cl : ∀ c ∈ t.cs, ∃ (v : V) (u : Value), ((mg c = some u) ∨ (mg c = none ∧ bootBuiltins c = some u ∧ c ≠ "__name__")) ∧ RelV v u ∧ (∀ u', RelV v u' → u' = u) ∧ PySem.W.kitOne K (.ref D) u = some (f c)) :
    NamesRun P w K mg base (k + 1) g D (t.tells f) := by
  intro A outer s H Q p hr hot hpin hz e0 q
  obtain ⟨oc, od, dV, kV, doc, pm, an, cdv, ct, osl, rfl, lk, hcd, _, _⟩ := F.ex
  unfold NTxt.okB at hok
  simp only [Bool.and_eq_true, decide_eq_true_eq, List.all_eq_true] at hok
  obtain ⟨o1, o2, o3, o4, o5, o6, o7, o8, o9, o10, o11⟩ := hok
  unfold NTxt.sizeB at hsz
  simp only [Bool.and_eq_true, decide_eq_true_eq, List.all_eq_true] at hsz
  obtain ⟨⟨⟨⟨z1, z2⟩, z3⟩, z4⟩, z5⟩ := hsz
  unfold NTxt.wordB at hwd
  simp only [Bool.and_eq_true, decide_eq_true_eq] at hwd
  obtain ⟨⟨d1, d2⟩, d3⟩ := hwd
  have S : FnScope t.N [t.en] (defScope st) := C8.fnScope_by o1
  have hp : t.N.all NTxt.plainN = true := List.all_eq_true.mpr o5
  have hpe : ∀ y ∈ t.N, (y == ("__debug__" : Str)) = false ∧ (y == ("__classdict__" : Str)) = false := fun y hy => by
    have := o5 y hy
    unfold NTxt.plainN at this
    simpa only [Bool.and_eq_true, Bool.not_eq_true'] using this
  have kin : K.In s.heap := e0.mod.kin.keeps fun b o e => (e0.bs b o e).1
  refine run_ofH (N := t.N) (ps := [t.en]) (us := [.ref p.1]) (vs := [.ref p.1]) lk hcd S hr hpin e0 (hb s [.ref p.1] kin rfl) (.cons rfl .nil) rfl ⟨_, pss_w, ?_⟩
  generalize hX : cxH (L2N.CX P w) P w K mg base t.N x (defScope st) g cdv A outer s H (fun _ _ _ => False) p = X
  have M : NmX X p.1 D p.2 t.en t.sn f (fun c => decide (c ∈ t.cs)) := by
    subst hX
    obtain ⟨vs, ev, _⟩ := hot.2
    refine ⟨S.nd, rfl, rfl, List.mem_singleton.mpr rfl, C, hz, ⟨vs, ev⟩, .inl o6, o7, hpe _ (by unfold NTxt.N; simp), hpe _ (by unfold NTxt.N; simp), o9, im, fun c hc => ?_⟩
    have hm : c ∈ t.cs := of_decide_eq_true hc
    obtain ⟨v, u, r⟩ := cl c hm
    have := o11 c hm
    simp only [Bool.not_eq_true'] at this
    exact ⟨this.1, this.2, v, u, r⟩
  have hc : HotC X := by subst hX; exact ⟨p, ⟨hot.1, hot.2⟩, List.mem_singleton.mpr rfl⟩
  have hNx : X.N = t.N := by subst hX; rfl
  have zg : Gl X "zip" := by subst hX; exact o10
  have zmx : X.mg "zip" = none := by subst hX; exact zm
  have lv : X.env.scope.names.lookup t.ln = some .local := by subst hX; exact o8
  have o3' : ckTail t.N t.sn t.ln t.wn t.gn t.l1 t.l2 X.env.scope ((defBody st).drop t.ns.length) = true := by subst hX; exact o3
  rw [← List.take_append_drop t.ns.length (defBody st)]
  have fit : ∀ n ∈ t.ns, nsFit true n := fun n hn => by
    have := z1 n hn
    cases n with
    | asg l => have h' : l.length ≤ 100 := of_decide_eq_true this
               exact h'
    | add l => have h' : l.length ≤ 100 := of_decide_eq_true this
               exact ⟨rfl, h'⟩
    | app c => rfl
  refine ns_run M (H0 := H) (bs := []) (on := false) o2 o4 fit (fun n r e => ?_) (by show 0 + _ + 100 ≤ _; omega) ⟨by rw [hNx]; rfl, rfl, fun _ _ e => e, fun z => by cases z⟩ fun σ' H' q1 => ?_
  · rw [e] at z2
    have := fit n (by rw [e]; exact .head _)
    cases n with
    | asg l => exact this
    | add l => cases z2
    | app c => cases z2
  · have hne : (false || !t.ns.isEmpty) = true := by
      cases hq : t.ns with
      | nil => rw [hq] at z2; cases z2
      | cons n r => rfl
    rw [hne] at q1
    exact ckTail_run M hc hNx zg zmx lv hp o3' q1 z4 z5 d1 d2 d3 q
end
end TnH

set_option maxRecDepth 100000
set_option maxHeartbeats 2000000
/-! Tn28: from the table of a law's defs to the law. -/
namespace Tn
open PySem PySem.Spec PyProof.Rows L2
/-! ### data of the top -/
mutual
def chkD (K : PySem.W.Frag) : D → Value → Bool
  | .none, v => match v with | .none => true | _ => false
  | .bool b, v => match v with | .bool c => b == c | _ => false
  | .int i, v => match v with | .int j _ => decide (i = j) | _ => false
  | .str x, v => match v with | .str y _ => decide (x = y) && ascS x | _ => false
  | .tuple ds, v => match v with
    | .ref a => match K.lookup a with
      | some ⟨.type c, _, .seq its _, _⟩ => decide (c = "tuple") && decide (its.size ≤ sizeLine) && chkAll K ds its.toList
      | _ => false
    | _ => false
  | _, _ => false
def chkAll (K : PySem.W.Frag) : Ds → List Value → Bool
  | [], vs => vs.isEmpty
  | d :: ds, vs => match vs with
    | v :: vs => chkD K d v && chkAll K ds vs
    | [] => false
end
mutual
theorem chkD_ok {K : PySem.W.Frag} : ∀ {d : D} {u : Value}, chkD K d u = true → ∃ v, RelV v u ∧ ∀ hd H, Rp K hd H v d
  | .none, u, h => by
    unfold chkD at h
    split at h
    · exact ⟨.non, rfl, fun _ _ => rp_non⟩
    · cases h
  | .bool b, u, h => by
    unfold chkD at h
    split at h
    · rw [beq_iff_eq] at h; subst h; exact ⟨.bl _, rfl, fun _ _ => rp_bl _⟩
    · cases h
  | .int i, u, h => by
    unfold chkD at h
    split at h
    · have h := of_decide_eq_true h; subst h; exact ⟨.int i, ⟨_, rfl⟩, fun _ _ => rp_int _⟩
    · cases h
  | .str x, u, h => by
    unfold chkD at h
    split at h
    · rw [Bool.and_eq_true, decide_eq_true_eq] at h
      obtain ⟨rfl, h⟩ := h
      exact ⟨.str x, ⟨_, rfl⟩, fun _ _ => ⟨.str x, h⟩⟩
    · cases h
  | .tuple ds, u, h => by
    unfold chkD at h
    split at h
    · rename_i a
      split at h
      · rename_i c od its n osl hl
        simp only [Bool.and_eq_true, decide_eq_true_eq] at h
        obtain ⟨⟨rfl, h2⟩, h3⟩ := h
        obtain ⟨vs, h4, h5⟩ := chkAll_ok h3
        refine ⟨.ref a, rfl, fun hd H => ⟨.tup (.inr ⟨_, its, n, hl, rfl, rfl, h2, h4⟩) (h5 hd H).1, lay_tup.mpr (h5 hd H).2⟩⟩
      · cases h
    · cases h
  | .list _, u, h => by unfold chkD at h; cases h
  | .dict _, u, h => by unfold chkD at h; cases h
theorem chkAll_ok {K : PySem.W.Frag} : ∀ {ds : Ds} {us : List Value}, chkAll K ds us = true → ∃ vs, Vals vs us ∧ ∀ hd H, RpAll K hd H vs ds
  | [], us, h => by
    unfold chkAll at h
    cases us with
    | nil => exact ⟨[], .nil, fun _ _ => ⟨.nil, rfl⟩⟩
    | cons => cases h
  | d :: ds, us, h => by
    cases us with
    | nil => unfold chkAll at h; cases h
    | cons u us =>
      unfold chkAll at h
      rw [Bool.and_eq_true] at h
      obtain ⟨v, r, q⟩ := chkD_ok h.1
      obtain ⟨vs, rs, qs⟩ := chkAll_ok h.2
      exact ⟨v :: vs, .cons r rs, fun hd H => ⟨.cons (q hd H).1 (qs hd H).1, by simp only [LayAll, ascAll, Bool.and_eq_true]; exact ⟨(q hd H).2, (qs hd H).2⟩⟩⟩
end
/-! ### the table -/
structure Ent where
  num : Nat
  x : Str
  st : Stmt
  N : List Str
  ps : List Str
  fn : Fn
/-- the def that catches what a lambda raises, the def that tells the names -/
structure ErrT where
  x : Str
  st : Stmt
  a : Str
  e : Str
  n : Str
  gx : Str
  gst : Stmt
  t : TnH.NTxt
  er : List (Nat × Str)
namespace ErrT
variable (t : ErrT)
def ck : List Stmt → Bool
  | [.Try [.Expr (.Call (.Name a1 _) [] [] _) _] [.ExceptHandler (some (.Name e1 _)) (some n1) [.Return (some (.Call (.Name g1 _) [.Name n2 _] [] _)) _] _] [] [] _, .Return (some (.Constant (.str r) _ _)) _] =>
    decide (t.a = a1) && (decide (t.e = e1) && (decide (t.n = n1) && (decide (t.n = n2) && (decide (t.gx = g1) && decide (r = ⟨#[]⟩)))))
  | _ => false
def okB : Bool := C8.scC [t.a, t.n] [t.a] (defScope t.st) && (t.ck (defBody t.st) && (decide ((defScope t.st).names.lookup t.n = some .local) && (decide ((defScope t.st).names.lookup t.a = some .local) && (decide ((defScope t.st).names.lookup t.e = some .globalImplicit) && (decide ((defScope t.st).names.lookup t.gx = some .globalImplicit)
  && (TnH.NTxt.plainN t.a && (TnH.NTxt.plainN t.n && (TnH.NTxt.plainN t.e && (TnH.NTxt.plainN t.gx && (t.t.okB t.gst && (t.t.sizeB && t.er.all fun p => ascS p.2)))))))))))
def clsV (K : PySem.W.Frag) (nm : Str) : Value := if nm = "ValueError" then .type "ValueError" else .ref (He.ga K nm)
def isB (K : PySem.W.Frag) (D : Addr) (nm : Str) : Bool := decide (PySem.W.kitOne K (.ref D) (clsV K nm) = some true)
def excB (K : PySem.W.Frag) (D : Addr) : Bool :=
  decide (PySem.W.findIn K (.ref D) "__getattribute__" = some (some (.builtin "BaseException.__getattribute__"))) && (decide (PySem.W.findIn K (.ref D) "__getattr__" = some none) && (decide (PySem.W.subIn K (.ref D) (.type "BaseException") = some true) && (PySem.W.hasDictIn K D
    && (decide (PySem.W.findIn K (.ref D) "__class__" = some (some (.builtin "object.__class__"))) && (decide (PySem.W.specialIn K (.builtin "object.__class__") "__get__" = some (some (.builtin "getset_descriptor.__get__"))) && (decide (PySem.W.takesIn K (.builtin "object.__class__") = some true)
    && decide (PySem.W.mroIn K D (.type "object") = some true)))))))
def kB (cs : List (Nat × Str)) (K : PySem.W.Frag) : Bool := t.t.cs.all (fun nm => if nm = "ValueError" then (He.Fa.free nm).ok K else (He.Fa.glo nm).ok K) && t.er.all fun p => match cs.lookup p.1 with
  | some x => excB K (He.ga K x) && (decide (PySem.W.exmOne K (.ref (He.ga K x)) (.ref (He.ga K t.e)) = some true) && (t.t.cs.all (fun nm => (PySem.W.kitOne K (.ref (He.ga K x)) (clsV K nm)).isSome) && (t.t.wordB (isB K (He.ga K x)) && decide (p.2 = t.t.tells (isB K (He.ga K x))))))
  | none => false
end ErrT
structure Txt where
  es : List Ent
  gs : List (Nat × Str × D)
  ks : List (Nat × Str × List (Str × D))
  cs : List (Nat × Str)
  /-- names of the defs with lambdas -/
  lam : List Str := []
  err : Option ErrT := none
namespace Txt
variable (t : Txt)
def nms : Nms := ⟨fun n => (t.es.find? (·.num == n)).map (·.x), fun g => (t.gs.lookup g).map (·.1), fun g => (t.ks.lookup g).map (·.1), fun c => t.cs.lookup c, t.err.map (·.x), fun ns => t.es.any fun e => decide (e.x ∈ t.lam) && decide ((defScope e.st).names = ns)⟩
def glob : Glob := ⟨fun g => (t.gs.lookup g).map (·.2), fun g => (t.ks.lookup g).map (·.2), fun c => match t.err with | some e => e.er.lookup c | none => none⟩
def tab : Nat → Option Fn := fun n => (t.es.find? (·.num == n)).map (·.fn)
def link (K : PySem.W.Frag) : Link := { t.nms with fa := fun n => (t.es.find? (·.num == n)).map fun e => He.ga K e.x, ca := fun c => match t.cs.lookup c with | some x => He.ga K x | none => 0, cf := fun _ => ⟨#[]⟩, T := t.lam.map fun x => ((He.cT K (x, none)).2, (x ++ ".<locals>.") ++ "<lambda>") }
def entB (e : Ent) : Bool := C8.scC e.N e.ps (defScope e.st) && decide (e.fn.sl = e.N.length) && decide (e.fn.ar = e.ps.length) && ckB t.nms e.N (defScope e.st) e.fn.body (defBody e.st) && (!t.nms.ls (defScope e.st).names || decide (e.x ∈ t.lam))
def eds : List (Str × Stmt) := match t.err with
  | some e => [(e.x, e.st), (e.gx, e.gst)]
  | none => []
def defs : List He.DefD := (t.es.map fun e => ⟨(e.x, none), e.x, e.x, defArgs e.st, defBody e.st, defScope e.st, [], []⟩) ++ t.eds.map fun e => ⟨(e.1, none), e.1, e.1, defArgs e.2, defBody e.2, defScope e.2, [], []⟩
def tf : List He.Defn := t.lam.map fun x => (x, none)
def efs : List He.Fa := match t.err with
  | some e => [.glo e.x, .glo e.gx, .glo e.e]
  | none => []
def fas : List He.Fa := t.es.map (fun e => .glo e.x) ++ bnames.map .free ++ t.cs.map (fun c => .glo c.2) ++ t.cs.map (fun c => .exc c.2) ++ t.efs
def tabs : List He.Tab := t.ks.map fun k => (fun K => He.ga K k.2.1, k.2.2.map (·.1))
def exB (K : PySem.W.Frag) : Bool := ((t.gs.all fun g => match PySem.W.nsIn K mainGlobals g.2.1 with
    | some (some u) => chkD K g.2.2 u
    | _ => false) && t.ks.all fun k => (He.Fa.glo k.2.1).ok K && k.2.2.all fun q => match PySem.W.nsIn K (He.ga K k.2.1) q.1 with
      | some (some u) => chkD K q.2 u
      | _ => false) && ((match t.err with | some e => e.kB t.cs K | none => true) && t.lam.all fun x => t.lam.all fun y => !decide ((He.cT K (x, none)).2 = (He.cT K (y, none)).2) || decide (x = y))
abbrev hook (n : Nat) : PySem.W.Hook := He.hookX n t.fas t.defs t.tabs t.tf t.exB
end Txt
theorem lookup_in {α : Type} : ∀ {l : List (Nat × α)} {n : Nat} {a : α}, l.lookup n = some a → (n, a) ∈ l
  | (m, b) :: r, n, a, h => by
    rw [List.lookup_cons] at h
    cases q : n == m with
    | true =>
      rw [q] at h
      cases h
      rw [beq_iff_eq.mp q]
      exact List.mem_cons_self
    | false =>
      rw [q] at h
      exact List.mem_cons_of_mem _ (lookup_in h)
theorem lookup_inS {α : Type} : ∀ {l : List (Str × α)} {n : Str} {a : α}, l.lookup n = some a → (n, a) ∈ l
  | (m, b) :: r, n, a, h => by
    rw [List.lookup_cons] at h
    cases q : n == m with
    | true =>
      rw [q] at h
      cases h
      rw [beq_iff_eq.mp q]
      exact List.mem_cons_self
    | false =>
      rw [q] at h
      exact List.mem_cons_of_mem _ (lookup_inS h)
/-- a def's binding: as many values as names -/
def BdOk (x : Str) (st : Stmt) (ps : List Str) : Prop := ∀ (kV doc pm : Value) (an : Option Addr) (cdv ct : Value) (us : List Value), us.length = ps.length → bindArgs (PySem.W.fnOf x x (defArgs st) (defBody st) (defScope st) .none kV doc pm an cdv ct) ⟨us, []⟩ = pure (ps.zip us)
structure TxtOk (t : Txt) : Prop where
  ent : ∀ e ∈ t.es, t.entB e = true
  bd : ∀ e ∈ t.es, ∀ (kV doc pm : Value) (an : Option Addr) (cdv ct : Value) (us : List Value), us.length = e.ps.length → bindArgs (PySem.W.fnOf e.x e.x (defArgs e.st) (defBody e.st) (defScope e.st) .none kV doc pm an cdv ct) ⟨us, []⟩ = pure (e.ps.zip us)
  err : ∀ e, t.err = some e → e.okB = true ∧ BdOk e.x e.st [e.a] ∧ BdOk e.gx e.gst [e.t.en] := by intro e h; cases h
section
variable {t : Txt} {P : Program} {w : World} {K : PySem.W.Frag} {mg : Str → Option Value} {base h : Heap}
theorem excB_ok {D : Addr} (h : ErrT.excB K D = true) : ExcC K D := by
  unfold ErrT.excB at h
  simp only [Bool.and_eq_true, decide_eq_true_eq] at h
  obtain ⟨h1, h2, h3, h4, h5, h6, h7, h8⟩ := h
  exact ⟨h1, h2, h3, h4, h5, h6, h7, h8⟩
theorem plainN_ok {x : Str} (h : TnH.NTxt.plainN x = true) : (x == ("__debug__" : Str)) = false ∧ (x == ("__classdict__" : Str)) = false := by
  unfold TnH.NTxt.plainN at h
  simpa only [Bool.and_eq_true, Bool.not_eq_true'] using h
theorem le_ok {e : ErrT} {T : List (Addr × Str)} {cs : List (Nat × Str)} {ca : Nat → Addr} (X : K.In h) (Gm : h.Ns mainGlobals mg) (ok : e.okB = true) (b1 : BdOk e.x e.st [e.a]) (b2 : BdOk e.gx e.gst [e.t.en]) (kb : e.kB cs K = true)
    (f1 : (He.Fa.glo e.x).ok K = true) (f2 : (He.Fa.glo e.gx).ok K = true) (f3 : (He.Fa.glo e.e).ok K = true) (im : mg "isinstance" = none) (zm : mg "zip" = none)
    {fd1 fd2 : FuncData} (F1 : FunD K e.x e.x (defArgs e.st) (defBody e.st) (defScope e.st) [] [] (He.ga K e.x) fd1) (F2 : FunD K e.gx e.gx (defArgs e.gst) (defBody e.gst) (defScope e.gst) [] [] (He.ga K e.gx) fd2)
    (hca : ∀ c x, cs.lookup c = some x → ca c = He.ga K x) (k : Nat) : TnH.LeP T (fun c => e.er.lookup c) ca k P w K mg base e.x := by
  have bb2 : Binds K fd2 [e.t.en] [] := F2.bindsN b2
  have bb1 : Binds K fd1 [e.a] [] := F1.bindsN b1
  have gm1 := He.glo_ok X Gm f1
  have gm2 := He.glo_ok X Gm f2
  have gm3 := He.glo_ok X Gm f3
  have kp2 := F2.kp
  have kp1 := F1.kp
  unfold ErrT.okB at ok
  simp only [Bool.and_eq_true, decide_eq_true_eq] at ok
  obtain ⟨o1, o2, o3, o4, o5, o6, o7, o8, o9, o10, o11, o12, _⟩ := ok
  unfold ErrT.kB at kb
  rw [Bool.and_eq_true] at kb
  obtain ⟨kb1, kb2⟩ := kb
  have nr : ∀ c z, e.er.lookup c = some z → PySem.W.exmOne K (.ref (ca c)) (.ref (He.ga K e.e)) = some true ∧ TnH.NamesRun P w K mg base (k + 4 + 1) (He.ga K e.gx) (ca c) z := fun c z hc => by
    have := List.all_eq_true.mp kb2 _ (lookup_in hc)
    dsimp only at this
    cases hx : cs.lookup c with
    | none => rw [hx] at this; cases this
    | some x =>
      rw [hx] at this
      simp only [Bool.and_eq_true, decide_eq_true_eq] at this
      obtain ⟨q1, q2, q3, q4, q5⟩ := this
      rw [hca c x hx]
      refine ⟨q2, ?_⟩
      rw [q5]
      refine TnH.names_run F2 bb2 o11 o12 q4 im zm (excB_ok q1) fun nm hnm => ?_
      have k1 := List.all_eq_true.mp kb1 nm hnm
      have k3 := List.all_eq_true.mp q3 nm hnm
      have ks : PySem.W.kitOne K (.ref (He.ga K x)) (ErrT.clsV K nm) = some (ErrT.isB K (He.ga K x) nm) := by
        unfold ErrT.isB
        rcases hq : PySem.W.kitOne K (.ref (He.ga K x)) (ErrT.clsV K nm) with _ | _ | _
        · rw [hq] at k3; cases k3
        · rfl
        · rfl
      by_cases hv : nm = "ValueError"
      · subst hv
        rw [if_pos rfl] at k1
        exact ⟨.ty "ValueError", .type "ValueError", .inr ⟨He.free_ok X Gm k1, rfl, by decide⟩, rfl, fun u' r => r, ks⟩
      · rw [if_neg hv] at k1
        have e1 : ErrT.clsV K nm = .ref (He.ga K nm) := by unfold ErrT.clsV; rw [if_neg hv]
        rw [e1] at ks
        exact ⟨.ref (He.ga K nm), .ref (He.ga K nm), .inl (He.glo_ok X Gm k1), rfl, fun u' r => r, ks⟩
  obtain ⟨oc, od, dV, kV, doc, pm, an, cdv, ct, osl, rfl, lk, hcd, _, _⟩ := F1.ex
  have S1 : FnScope [e.a, e.n] [e.a] (defScope e.st) := C8.fnScope_by o1
  intro Y bd scope t p lpos pos y1 y2 y3 y4 y5 hg hdb la hr LS hbody hmono
  subst y1 y2 y3 y4 y5
  obtain ⟨c, Pt, TB, hcode, hmT, hu⟩ := la
  have base : ∀ {bg : List Stmt}, defBody e.st = bg → e.ck bg = true → PE Y (.Call (.Name e.x p) [.Lambda TnH.noArgs bd scope lpos] [] pos) (TnH.tLamN T (TnH.tErr Y.prog Y.w Y.K Y.mg Y.base (k + 4 + 1) (He.ga Y.K e.gx) (He.ga Y.K e.e) ⟨#[]⟩) t) := fun {bg} hbg hck => by
    unfold ErrT.ck at hck
    split at hck
    · simp only [Bool.and_eq_true, decide_eq_true_eq] at hck
      obtain ⟨w1, w2, w3, w4, w5, w6⟩ := hck
      rw [← w1, ← w2, ← w3, ← w4, ← w5, w6] at hbg
      refine TnH.pe_lamN (k := k + 4) (Ng := [e.a, e.n]) hg gm1 kp1 lk hcd bb1 S1 rfl (.inl o4) ?_ TB hcode hmT hu hr LS rfl (fun _ _ _ _ _ => rfl) (fun A outer s H E f d hr2 => hbody A outer s H E f d hr2) hdb (plainN_ok o7).1 (plainN_ok o7).2
      rw [hbg]
      exact TnH.gives_err S1 (i := 1) rfl o3 o5 gm3 (plainN_ok o9).1 o6 gm2 (plainN_ok o10).1 kp2 (plainN_ok o8).1 (plainN_ok o8).2 (by decide) (by simp)
    · cases hck
  have base2 := base rfl o2
  refine ⟨fun pins s σ H Q I hq => base2.run pins s σ H Q I ⟨hq.1, fun G md => ?_⟩⟩
  refine hmono _ _ σ G _ (fun cls d G1 hE => ?_) (hq.2 G md)
  obtain ⟨cc, z, rfl, rfl, hz, q⟩ := hE
  exact ⟨(nr cc z hz).1, ca cc, z, rfl, rfl, (nr cc z hz).2, q⟩
theorem txt_lf (O : TxtOk t) (X : K.In h) (Gm : h.Ns mainGlobals mg) (S : He.SaysX t.fas t.defs t.tabs t.tf t.exB w h K) : LF0 (t.link K) t.glob P w K mg base := by
  have c := S.t.d
  have fact : ∀ {f : He.Fa}, f ∈ t.fas → f.ok K = true := fun h => He.SaysD.facts c h
  have exb := S.more
  unfold Txt.exB at exb
  obtain ⟨exb, exb2⟩ := Bool.and_eq_true_iff.mp exb
  obtain ⟨exb2, _⟩ := Bool.and_eq_true_iff.mp exb2
  rw [Bool.and_eq_true, List.all_eq_true, List.all_eq_true] at exb
  have bl : ∀ x ∈ bnames, mg x = none := fun x hx => He.free_ok X Gm (fact (by
    simp only [Txt.fas, List.mem_append, List.mem_map]
    exact .inl (.inl (.inl (.inr ⟨x, hx, rfl⟩)))))
  refine ⟨fun n x e => ?_, fun g x d e1 e2 => ?_, bl, fun cc x e Y y1 y2 y3 y4 y5 hg hdb msg j p p2 pos => ?_, fun g x tt e1 e2 => ?_, fun k z e => ?_, fun c z e => ?_⟩
  · have e : (t.es.find? (·.num == n)).map (·.x) = some x := e
    cases q : t.es.find? (·.num == n) with
    | none => rw [q] at e; cases e
    | some en =>
      rw [q] at e
      cases e
      refine ⟨He.ga K en.x, by show (t.es.find? (·.num == n)).map _ = _; rw [q]; rfl, He.glo_ok X Gm (fact ?_)⟩
      simp only [Txt.fas, List.mem_append, List.mem_map]
      exact .inl (.inl (.inl (.inl ⟨en, List.mem_of_find?_eq_some q, rfl⟩)))
  · have e1 : (t.gs.lookup g).map (·.1) = some x := e1
    have e2 : (t.gs.lookup g).map (·.2) = some d := e2
    cases q : t.gs.lookup g with
    | none => rw [q] at e1; cases e1
    | some v =>
      rw [q] at e1 e2
      cases e1; cases e2
      have z := exb.1 _ (lookup_in q)
      simp only at z
      split at z
      · rename_i u hu
        obtain ⟨v0, r, k⟩ := chkD_ok z
        exact ⟨u, v0, PySem.W.mg_of X Gm hu, r, k⟩
      · cases z
  · subst y1 y2 y3 y4 y5
    have e : t.cs.lookup cc = some x := e
    have hm := lookup_in e
    have f1 : (He.Fa.glo x).ok Y.K = true := fact (by simp only [Txt.fas, List.mem_append, List.mem_map]; exact .inl (.inl (.inr ⟨_, hm, rfl⟩)))
    have f2 : (He.Fa.exc x).ok Y.K = true := fact (by simp only [Txt.fas, List.mem_append, List.mem_map]; exact .inl (.inr ⟨_, hm, rfl⟩))
    obtain ⟨x1, x2, x3, x4⟩ := He.exc_ok f2
    have ca : (t.link Y.K).ca cc = He.ga Y.K x := by show (match t.cs.lookup cc with | some x => He.ga Y.K x | none => 0) = _; rw [e]
    rw [ca]
    exact L2N.pmk_own PySem.F.excBase_ValueError x1 (He.glo_ok X Gm f1) x2 (raises_own x3 x4) hg hdb
  · have e1 : (t.ks.lookup g).map (·.1) = some x := e1
    have e2 : (t.ks.lookup g).map (·.2) = some tt := e2
    cases q : t.ks.lookup g with
    | none => rw [q] at e1; cases e1
    | some v =>
      rw [q] at e1 e2
      cases e1; cases e2
      have z := exb.2 _ (lookup_in q)
      simp only [Bool.and_eq_true, List.all_eq_true] at z
      obtain ⟨z1, z2⟩ := z
      refine ⟨He.ga K v.1, He.glo_ok X Gm z1, fun zz y hy => ?_⟩
      have z3 := z2 _ (lookup_inS hy)
      simp only at z3
      split at z3
      · rename_i u hu
        obtain ⟨v0, r, k⟩ := chkD_ok z3
        obtain ⟨i, hi, ei⟩ := List.mem_iff_getElem.mp (lookup_in q)
        obtain ⟨es, n, kd⟩ := S.t.tab i (t := (fun K => He.ga K v.1, v.2.map (·.1))) (by
          show (t.ks.map _)[i]? = _
          rw [List.getElem?_map, List.getElem?_eq_getElem hi, ei]; rfl)
        refine ⟨v0, ⟨es, n, u, kd.at_, kd.lit, hu, r⟩, k⟩
      · cases z3
  · have e : t.err.map (·.x) = some z := e
    cases q : t.err with
    | none => rw [q] at e; cases e
    | some er =>
      rw [q] at e exb2
      cases e
      have efs : t.efs = [.glo er.x, .glo er.gx, .glo er.e] := by unfold Txt.efs; rw [q]
      have fe : ∀ f ∈ t.efs, f.ok K = true := fun f hf => fact (by simp only [Txt.fas, List.mem_append]; exact .inr hf)
      rw [efs] at fe
      obtain ⟨k1, k2, k3⟩ := O.err er q
      have eds : t.eds = [(er.x, er.st), (er.gx, er.gst)] := by unfold Txt.eds; rw [q]
      have dd : ∀ x st, (x, st) ∈ t.eds → ∃ fd, FunD K x x (defArgs st) (defBody st) (defScope st) [] [] (He.ga K x) fd := fun x st hx =>
        He.SaysD.defs c (d := ⟨(x, none), x, x, defArgs st, defBody st, defScope st, [], []⟩) (List.mem_append_right _ (List.mem_map.mpr ⟨(x, st), hx, rfl⟩))
      obtain ⟨fd1, F1⟩ := dd er.x er.st (by rw [eds]; simp)
      obtain ⟨fd2, F2⟩ := dd er.gx er.gst (by rw [eds]; simp)
      have hg : t.glob.er = fun c => er.er.lookup c := by unfold Txt.glob; rw [q]
      rw [hg]
      exact le_ok X Gm k1 k2 k3 exb2 (fe _ (by simp)) (fe _ (by simp)) (fe _ (by simp)) (bl _ (by decide)) (bl _ (by decide)) F1 F2 (fun c x hc => by show (match t.cs.lookup c with | some x => He.ga K x | none => 0) = _; rw [hc]) k
  · have e : (match t.err with | some e => e.er.lookup c | none => none) = some z := e
    cases q : t.err with
    | none => rw [q] at e; cases e
    | some er =>
      rw [q] at e
      have k1 := (O.err er q).1
      unfold ErrT.okB at k1
      simp only [Bool.and_eq_true] at k1
      exact List.all_eq_true.mp k1.2.2.2.2.2.2.2.2.2.2.2.2 _ (lookup_in e)
theorem txt_lam (O : TxtOk t) (S : He.SaysX t.fas t.defs t.tabs t.tf t.exB w h K) (hB : ∀ p ∈ t.tf.map (He.cT K), LamX.TabB base mg p.1 p.2) {en : Ent} (hm : en ∈ t.es) {fd : FuncData} (F : FunD K en.x en.x (defArgs en.st) (defBody en.st) (defScope en.st) [] [] (He.ga K en.x) fd)
    (hls : (t.link K).ls (defScope en.st).names = true) : LamD (t.link K) mg base en.x fd := by
  have eb := O.ent en hm
  unfold Txt.entB at eb
  simp only [Bool.and_eq_true, Bool.or_eq_true, Bool.not_eq_true', decide_eq_true_eq] at eb
  have hx : en.x ∈ t.lam := by
    rcases eb.2 with z | z
    · have hls : t.nms.ls (defScope en.st).names = true := hls
      rw [hls] at z; cases z
    · exact z
  obtain ⟨oc, od, dV, kV, doc, pm, an, cdv, ct, osl, e, lk, hcd, _, _⟩ := F.ex
  obtain ⟨c, rfl⟩ := He.codeIn_ref hcd
  have hc : He.codeOf K (en.x, none) = c := He.codeOf_eq (p := (en.x, none)) lk (by rw [e])
  have ex := S.more
  unfold Txt.exB at ex
  have ex := (Bool.and_eq_true_iff.mp (Bool.and_eq_true_iff.mp ex).2).2
  refine ⟨c, (He.cT K (en.x, none)).2, ?_, by rw [e], List.mem_map.mpr ⟨en.x, hx, rfl⟩, fun p hp hP => ?_⟩
  · have := hB (He.cT K (en.x, none)) (List.mem_map.mpr ⟨(en.x, none), List.mem_map.mpr ⟨en.x, hx, rfl⟩, rfl⟩)
    have e1 : (He.cT K (en.x, none)).1 = c := hc
    rw [e1] at this
    exact this
  · obtain ⟨y, hy, rfl⟩ := List.mem_map.mp hp
    have := List.all_eq_true.mp (List.all_eq_true.mp ex y hy) en.x hx
    simp only [Bool.or_eq_true, Bool.not_eq_true', decide_eq_false_iff_not, decide_eq_true_eq] at this
    rcases this with z | z
    · exact absurd hP z
    · rw [z]
theorem txt_defs (O : TxtOk t) (S : He.SaysX t.fas t.defs t.tabs t.tf t.exB w h K) (hB : ∀ p ∈ t.tf.map (He.cT K), LamX.TabB base mg p.1 p.2) : ∀ n a, (t.link K).fa n = some a → DefOk (t.link K) K mg base t.tab n a := fun n a e => by
  have e : (t.es.find? (·.num == n)).map (fun e => He.ga K e.x) = some a := e
  cases q : t.es.find? (·.num == n) with
  | none => rw [q] at e; cases e
  | some en =>
    rw [q] at e
    cases e
    have hm := List.mem_of_find?_eq_some q
    obtain ⟨fd, F⟩ := He.SaysD.defs S.t.d (d := ⟨(en.x, none), en.x, en.x, defArgs en.st, defBody en.st, defScope en.st, [], []⟩) (List.mem_append_left _ (List.mem_map.mpr ⟨en, hm, rfl⟩))
    have eb := O.ent en hm
    unfold Txt.entB at eb
    simp only [Bool.and_eq_true, decide_eq_true_eq] at eb
    obtain ⟨⟨⟨⟨b1, b2⟩, b3⟩, b4⟩, _⟩ := eb
    exact ⟨en.x, en.st, en.N, en.ps, en.fn, fd, by show (t.es.find? (·.num == n)).map _ = _; rw [q]; rfl, F, C8.fnScope_by b1, b2, b3, b4, F.bindsN (O.bd en hm), txt_lam O S hB hm F⟩
/-- THE END: the law's equation in the small language gives the law's walk -/
theorem txt_walk {l : PySem.W.OpenLaw} {n N j nl : Nat} {q : Program} {loose : List Str} {XP : (Str → Option Value) → Heap → Prop} {d : DefRec} {x : Str} {el : Ent} (O : TxtOk t) (hn : l.most = some n) (hn2 : n ≤ sizeLine) (hdf : d.params.defaults = []) (hr : Room (7 * j) callerA)
    (hel : t.es.find? (·.num == nl) = some el) (hx : el.x = d.name) (hp : el.ps = [x])
    (hlaw : ∀ ns : List Int, ns.length ≤ n → ∃ m, callN t.glob t.tab j nl [.s ns] [] = .ok (.d (.bool true)) m) :
    PySem.W.WalkO q loose XP (t.hook N).says l.row.toRowW d [] (fun f vs => PySem.call f vs) := by
  refine Att.attach_callB hn hdf fun w s₀ s₁ mg mb fa o pm cd doc a vs ns Gd Y ho hd hcd hmg hobj hints hlen hbits hg => ?_
  obtain ⟨K, KX, S⟩ := Y
  have hm := List.mem_of_find?_eq_some hel
  obtain ⟨fd, F⟩ := He.SaysD.defs S.t.d (d := ⟨(el.x, none), el.x, el.x, defArgs el.st, defBody el.st, defScope el.st, [], []⟩) (List.mem_append_left _ (List.mem_map.mpr ⟨el, hm, rfl⟩))
  have eb := O.ent el hm
  unfold Txt.entB at eb
  simp only [Bool.and_eq_true, decide_eq_true_eq] at eb
  obtain ⟨⟨⟨⟨b1, b2⟩, b3⟩, b4⟩, _⟩ := eb
  have hga : fa = He.ga K el.x := by
    have f1 : (He.Fa.glo el.x).ok K = true := He.SaysD.facts S.t.d (by simp only [Txt.fas, List.mem_append, List.mem_map]; exact .inl (.inl (.inl (.inl ⟨el, hm, rfl⟩))))
    have := He.glo_ok KX Gd.T.g f1
    rw [hx, hmg] at this
    cases this
    rw [hx]
  have htab : t.tab nl = some el.fn := by show (t.es.find? (·.num == nl)).map _ = _; rw [hel]; rfl
  have hb : ∀ (s : Shared) (u : Value), BindsTo s fd ⟨[u], []⟩ [(x, u)] := fun s u => by
    have := F.bindsA (O.bd el hm) s [u] (by rw [hp]; rfl)
    rw [hp] at this
    exact this
  obtain ⟨m, el'⟩ := hlaw ns hlen
  refine LamX.law_callTs (cs := t.tf.map (He.cT K)) (sp := spF (t.link K) K (callN t.glob t.tab j) nl) (CX := L2N.CX l.prog w) KX Gd.T.g Gd.T.b Gd.T.builtins Gd.T.nolimit hg (fun p hp => by obtain ⟨q, hq, rfl⟩ := List.mem_map.mp hp; exact S.empty q hq) (fun p hp => by obtain ⟨q, hq, rfl⟩ := List.mem_map.mp hp; exact S.out q hq) (fun p hp => by obtain ⟨q, hq, rfl⟩ := List.mem_map.mp hp; exact PySem.W.codeHd_of_K KX (S.hd q hq)) Gd.T.bmain hobj hints (Nat.le_trans hlen hn2) hr (fun base hK hN hT => ?_) hb (fun H hH hS => ?_) (fun H e s' hc => ?_)
  · rw [← hp, hga]
    exact knot_at (txt_lf O KX Gd.T.g S) (txt_defs O S hT) j htab F (C8.fnScope_by b1) b2 b3 b4 (txt_lam O S hT hm F)
  · refine ⟨[], [], [], [.s ns], rfl, .cons ⟨a, rfl, sqL_le (fun b o e _ => by rw [hide_out (by simp)]; exact e) hS⟩ .nil, ⟨rfl, List.nodup_nil, (fun _ z => by cases z), (fun k _ _ z => by simp at z), (fun p hp => by
      obtain ⟨y, hy, rfl⟩ := List.mem_map.mp hp
      exact LamX.TabS.nil (hH _ (List.mem_map.mpr ⟨(y, none), List.mem_map.mpr ⟨y, hy, rfl⟩, rfl⟩))), (fun _ z => by cases z)⟩, ?_⟩
    rw [el']
    intro H' _ _ v rv
    cases (show Dq K (hide [] H') v (.bool true) from rv.1)
    rfl
  · obtain ⟨_, _, _, _, _, _, _, _, _, _, _, _, z⟩ := hc
    exact z.elim
end
end Tn

set_option maxRecDepth 100000
set_option maxHeartbeats 2000000
/-! TnY: the same head with its addresses gathered in one pass (marks in a number's bits, no eraseDups). -/
namespace Tn
open PySem PySem.W PySem.Calls PyProof.Rows HandSHeadRun
/-- the new ones of a list, the marks of the seen ones -/
def newY : Nat → List Addr → (Nat → List Addr → List Addr) → List Addr
  | mk, [], k => k mk []
  | mk, a :: r, k => frNat a fun a => frNat (Nat.pow 2 a) fun b => match Nat.beq (Nat.land mk b) 0 with
    | true => frNat (Nat.add mk b) fun mk => newY mk r fun mk l => k mk (a :: l)
    | false => newY mk r k
def refsY (g : Addr → Option Obj) (a : Addr) : List Addr := match g a with
  | some o => He.refsD o
  | none => []
def growY (g : Addr → Option Obj) : Nat → Nat → List Addr → List Addr
  | 0, _, fr => fr
  | n + 1, mk, fr => newY mk (fr.flatMap (refsY g)) fun mk l => fr ++ growY g n mk l
def asY (g : Addr → Option Obj) : List Addr := growY g 4 (Nat.pow 2 mainGlobals) [mainGlobals]
section
variable {as : (Addr → Option Obj) → List Addr} {fa : List He.Fa} {fn : List He.DefD} {ts : List He.Tab} {tf : List He.Defn} {ex : PySem.W.Frag → Bool} {w : World}
def obsY (as : (Addr → Option Obj) → List Addr) (fa : List He.Fa) (fn : List He.DefD) (ts : List He.Tab) (tf : List He.Defn) (ex : PySem.W.Frag → Bool) (g : Addr → Option Obj) : He.AlX := (He.obsT fa fn ts (He.frT g (as g)), ex (He.frT g (as g)) && He.tabsB g tf (He.frT g (as g)))
theorem saysY_of {h : Heap} (e : obsY as fa fn ts tf ex h.get? = He.valX fn ts w) : He.SaysX fa fn ts tf ex w h (He.frT h.get? (as h.get?)) := by
  generalize hK : He.frT h.get? (as h.get?) = K
  have inK : ∀ {a : Addr} {o : Obj}, K.lookup a = some o → h.get? a = some o ∧ He.emptyTab o = false := fun q => by rw [← hK] at q; exact He.frT_mem q
  have e1 : He.obsT fa fn ts K = He.valT fn ts w := by rw [← hK]; exact congrArg (fun z : He.AlX => z.1) e
  have e2 : (ex K && He.tabsB h.get? tf K) = true := by rw [← hK]; exact congrArg (fun z : He.AlX => z.2) e
  rw [Bool.and_eq_true] at e2
  have key : ∀ p ∈ tf, PySem.W.codeHdIn K (He.cT K p).1 (He.cT K p).2 = true ∧ ∃ o, h.get? (He.cT K p).2 = some o ∧ He.emptyTab o = true := fun p hp => by
    have q := List.all_eq_true.mp e2.2 p hp
    rw [Bool.and_eq_true] at q
    refine ⟨q.1, ?_⟩
    have q2 := q.2
    cases z : h.get? (He.cT K p).2 with
    | none => rw [z] at q2; cases q2
    | some o => rw [z] at q2; exact ⟨o, rfl, q2⟩
  refine ⟨e1, e2.1, fun p hp => (key p hp).1, fun p hp => ?_, fun p hp => ?_⟩
  · obtain ⟨_, o, q, z⟩ := key p hp
    cases l : K.lookup (He.cT K p).2 with
    | none => rfl
    | some u =>
      obtain ⟨h1, h2⟩ := inK l
      rw [q] at h1
      cases h1
      rw [z] at h2
      cases h2
  · obtain ⟨_, o, q, z⟩ := key p hp
    rw [q, He.emptyTab_eq z]
def hookY (as : (Addr → Option Obj) → List Addr) (fa : List He.Fa) (fn : List He.DefD) (ts : List He.Tab) (tf : List He.Defn) (ex : PySem.W.Frag → Bool) : PySem.W.Hook where
  α := He.AlX
  obs := fun s => obsY as fa fn ts tf ex s.heap.get?
  val := fun w => He.valX fn ts w
  says := fun w h => ∃ K : PySem.W.Frag, K.In h ∧ He.SaysX fa fn ts tf ex w h K
  of := fun _ _ e => ⟨_, He.frT_in, saysY_of e⟩
  keeps := fun _ _ _ ⟨K, hK, c⟩ k => ⟨K, PySem.W.Frag.In.keeps hK k, ⟨c.t, c.more, c.hd, c.out, fun p hp => k _ _ (c.empty p hp)⟩⟩
theorem obsY_eq {g : Addr → Option Obj} {s : Shared} (h : ∀ a, g a = s.heap.get? a) : obsY as fa fn ts tf ex g = (hookY as fa fn ts tf ex).obs s := by
  have e : g = s.heap.get? := funext h
  rw [e] <;> rfl
end
abbrev Txt.hookY (t : Txt) : PySem.W.Hook := Tn.hookY asY t.fas t.defs t.tabs t.tf t.exB
theorem Txt.says_eq {t : Txt} {n : Nat} : (t.hook n).says = t.hookY.says := rfl
end Tn

set_option maxRecDepth 1000000
set_option maxHeartbeats 0
namespace Tn
open PySem PySem.Spec PyProof.Rows L2
abbrev P : Program := (PySem.Challenge.rw_anypaint_k04_whole_claims_that_surely_ar).prog
def top (i : Nat) : Stmt := (PySem.Challenge.pw_anypaint_k04_whole_claims_that_surely_ar).main.body.getD i (.Pass ⟨0, 0, 0, 0⟩)
def f_is_whole : Fn := ⟨3, 3, (.cons (.ret (.ands (.cons (.isi (.var 0) .int) (.cons (.not (.isi (.var 0) .bool)) (.cons (.chn (.var 1) .le (.var 0) .le (.var 2)) .nil))))) .nil)⟩
def e_is_whole : Ent := ⟨0, "is_whole", top 22, ["value", "low", "high"], ["value", "low", "high"], f_is_whole⟩
theorem b_is_whole (kV doc pm : Value) (an : Option Addr) (cdv ct : Value) (us : List Value) (hl : us.length = e_is_whole.ps.length) : bindArgs (PySem.W.fnOf e_is_whole.x e_is_whole.x (defArgs e_is_whole.st) (defBody e_is_whole.st) (defScope e_is_whole.st) .none kV doc pm an cdv ct) ⟨us, []⟩ = pure (e_is_whole.ps.zip us) := match us, hl with | [_, _, _], _ => rfl
def f_is_rising : Fn := ⟨2, 4, (.cons (.ifs (.ors (.cons (.not (.isi (.var 0) .tuple)) (.cons (.cmp .ne (.cm1 (.var 2) (.one 2) (.dat (.var 0)) [2] (.cons (.not (.call 0 (.cons (.var 2) (.cons (.cst (.int (0))) (.cons (.var 1) .nil))))) .nil)) (.lst .nil)) .nil))) (.cons (.ret (.cst (.bool false))) .nil) .nil) (.cons (.ret (.cmp .eq (.cm1 (.var 3) (.one 3) (.rng (.bin .sub (.blt .len (.cons (.var 0) .nil)) (.cst (.int (1))))) [3] (.cons (.cmp .ge (.idx (.var 0) (.var 3)) (.idx (.var 0) (.bin .add (.var 3) (.cst (.int (1)))))) .nil)) (.lst .nil))) .nil))⟩
def e_is_rising : Ent := ⟨1, "is_rising", top 23, ["value", "most", "part", "at"], ["value", "most"], f_is_rising⟩
theorem b_is_rising (kV doc pm : Value) (an : Option Addr) (cdv ct : Value) (us : List Value) (hl : us.length = e_is_rising.ps.length) : bindArgs (PySem.W.fnOf e_is_rising.x e_is_rising.x (defArgs e_is_rising.st) (defBody e_is_rising.st) (defScope e_is_rising.st) .none kV doc pm an cdv ct) ⟨us, []⟩ = pure (e_is_rising.ps.zip us) := match us, hl with | [_, _], _ => rfl
def f_is_mixture : Fn := ⟨2, 2, (.cons (.ret (.ands (.cons (.call 1 (.cons (.var 1) (.cons (.bin .sub (.var 0) (.cst (.int (1)))) .nil))) (.cons (.cmp .ne (.var 1) (.tup .nil)) .nil)))) .nil)⟩
def e_is_mixture : Ent := ⟨2, "is_mixture", top 24, ["many", "value"], ["many", "value"], f_is_mixture⟩
theorem b_is_mixture (kV doc pm : Value) (an : Option Addr) (cdv ct : Value) (us : List Value) (hl : us.length = e_is_mixture.ps.length) : bindArgs (PySem.W.fnOf e_is_mixture.x e_is_mixture.x (defArgs e_is_mixture.st) (defBody e_is_mixture.st) (defScope e_is_mixture.st) .none kV doc pm an cdv ct) ⟨us, []⟩ = pure (e_is_mixture.ps.zip us) := match us, hl with | [_, _], _ => rfl
def f_is_fact : Fn := ⟨2, 2, (.cons (.ifs (.ors (.cons (.not (.isi (.var 1) .tuple)) (.cons (.cmp .ne (.blt .len (.cons (.var 1) .nil)) (.cst (.int (3)))) (.cons (.not (.isi (.idx (.var 1) (.cst (.int (0)))) .str)) .nil)))) (.cons (.ret (.cst (.bool false))) .nil) .nil) (.cons (.ret (.ands (.cons (.cmp .isin (.idx (.var 1) (.cst (.int (0)))) (.glo 0)) (.cons (.call 2 (.cons (.var 0) (.cons (.idx (.var 1) (.cst (.int (1)))) .nil))) (.cons (.call 2 (.cons (.var 0) (.cons (.idx (.var 1) (.cst (.int (2)))) .nil))) .nil))))) .nil))⟩
def e_is_fact : Ent := ⟨3, "is_fact", top 25, ["many", "value"], ["many", "value"], f_is_fact⟩
theorem b_is_fact (kV doc pm : Value) (an : Option Addr) (cdv ct : Value) (us : List Value) (hl : us.length = e_is_fact.ps.length) : bindArgs (PySem.W.fnOf e_is_fact.x e_is_fact.x (defArgs e_is_fact.st) (defBody e_is_fact.st) (defScope e_is_fact.st) .none kV doc pm an cdv ct) ⟨us, []⟩ = pure (e_is_fact.ps.zip us) := match us, hl with | [_, _], _ => rfl
def f_has_book : Fn := ⟨1, 2, (.cons (.ifs (.ors (.cons (.not (.isi (.var 0) .tuple)) (.cons (.cmp .ne (.blt .len (.cons (.var 0) .nil)) (.cst (.int (2)))) (.cons (.not (.call 0 (.cons (.idx (.var 0) (.cst (.int (0)))) (.cons (.cst (.int (2))) (.cons (.cst (.int (6))) .nil))))) .nil)))) (.cons (.ret (.cst (.bool false))) .nil) .nil) (.cons (.ifs (.ors (.cons (.not (.isi (.idx (.var 0) (.cst (.int (1)))) .tuple)) (.cons (.cmp .gt (.blt .len (.cons (.idx (.var 0) (.cst (.int (1)))) .nil)) (.glo 1)) .nil))) (.cons (.ret (.cst (.bool false))) .nil) .nil) (.cons (.ret (.cmp .eq (.cm1 (.var 1) (.one 1) (.dat (.idx (.var 0) (.cst (.int (1))))) [1] (.cons (.not (.call 3 (.cons (.idx (.var 0) (.cst (.int (0)))) (.cons (.var 1) .nil)))) .nil)) (.lst .nil))) .nil)))⟩
def e_has_book : Ent := ⟨4, "has_book", top 26, ["value", "fact"], ["value"], f_has_book⟩
theorem b_has_book (kV doc pm : Value) (an : Option Addr) (cdv ct : Value) (us : List Value) (hl : us.length = e_has_book.ps.length) : bindArgs (PySem.W.fnOf e_has_book.x e_has_book.x (defArgs e_has_book.st) (defBody e_has_book.st) (defScope e_has_book.st) .none kV doc pm an cdv ct) ⟨us, []⟩ = pure (e_has_book.ps.zip us) := match us, hl with | [_], _ => rfl
def f_need_book : Fn := ⟨1, 1, (.cons (.ifs (.not (.call 4 (.cons (.var 0) .nil))) (.cons (.rai 0) .nil) .nil) .nil)⟩
def e_need_book : Ent := ⟨6, "need_book", top 27, ["book"], ["book"], f_need_book⟩
theorem b_need_book (kV doc pm : Value) (an : Option Addr) (cdv ct : Value) (us : List Value) (hl : us.length = e_need_book.ps.length) : bindArgs (PySem.W.fnOf e_need_book.x e_need_book.x (defArgs e_need_book.st) (defBody e_need_book.st) (defScope e_need_book.st) .none kV doc pm an cdv ct) ⟨us, []⟩ = pure (e_need_book.ps.zip us) := match us, hl with | [_], _ => rfl
def f_need_claim : Fn := ⟨2, 2, (.cons (.exp (.call 6 (.cons (.var 0) .nil))) (.cons (.ifs (.not (.call 3 (.cons (.idx (.var 0) (.cst (.int (0)))) (.cons (.var 1) .nil)))) (.cons (.rai 1) .nil) .nil) .nil))⟩
def e_need_claim : Ent := ⟨34, "need_claim", top 28, ["book", "claim"], ["book", "claim"], f_need_claim⟩
theorem b_need_claim (kV doc pm : Value) (an : Option Addr) (cdv ct : Value) (us : List Value) (hl : us.length = e_need_claim.ps.length) : bindArgs (PySem.W.fnOf e_need_claim.x e_need_claim.x (defArgs e_need_claim.st) (defBody e_need_claim.st) (defScope e_need_claim.st) .none kV doc pm an cdv ct) ⟨us, []⟩ = pure (e_need_claim.ps.zip us) := match us, hl with | [_, _], _ => rfl
def f_all_kinds : Fn := ⟨1, 4, (.cons (.asg 1 (.lst (.cons (.tup .nil) .nil))) (.cons (.fr (.one 2) (.rng (.var 0)) (.cons (.asg 1 (.bin .add (.var 1) (.cm1 (.bin .add (.var 3) (.tup (.cons (.var 2) .nil))) (.one 3) (.dat (.var 1)) [3] .nil))) .nil)) (.cons (.ret (.slo (.var 1) (.cst (.int (1))))) .nil)))⟩
def e_all_kinds : Ent := ⟨47, "all_kinds", top 31, ["many", "found", "paint", "kind"], ["many"], f_all_kinds⟩
theorem b_all_kinds (kV doc pm : Value) (an : Option Addr) (cdv ct : Value) (us : List Value) (hl : us.length = e_all_kinds.ps.length) : bindArgs (PySem.W.fnOf e_all_kinds.x e_all_kinds.x (defArgs e_all_kinds.st) (defBody e_all_kinds.st) (defScope e_all_kinds.st) .none kV doc pm an cdv ct) ⟨us, []⟩ = pure (e_all_kinds.ps.zip us) := match us, hl with | [_], _ => rfl
def f_meets : Fn := ⟨2, 3, (.cons (.ret (.cmp .ne (.cm1 (.var 2) (.one 2) (.dat (.var 1)) [2] (.cons (.cmp .isin (.var 2) (.var 0)) .nil)) (.lst .nil))) .nil)⟩
def e_meets : Ent := ⟨48, "meets", top 32, ["kind", "mixture", "paint"], ["kind", "mixture"], f_meets⟩
theorem b_meets (kV doc pm : Value) (an : Option Addr) (cdv ct : Value) (us : List Value) (hl : us.length = e_meets.ps.length) : bindArgs (PySem.W.fnOf e_meets.x e_meets.x (defArgs e_meets.st) (defBody e_meets.st) (defScope e_meets.st) .none kV doc pm an cdv ct) ⟨us, []⟩ = pure (e_meets.ps.zip us) := match us, hl with | [_, _], _ => rfl
def f_is_parting : Fn := ⟨2, 4, (.cons (.asgs [2, 3] (.cons (.call 48 (.cons (.var 0) (.cons (.idx (.var 1) (.cst (.int (1)))) .nil))) (.cons (.call 48 (.cons (.var 0) (.cons (.idx (.var 1) (.cst (.int (2)))) .nil))) .nil))) (.cons (.ifs (.cmp .isin (.idx (.var 1) (.cst (.int (0)))) (.tup (.cons (.cst (.str (.ofString "covers"))) (.cons (.cst (.str (.ofString "bares"))) .nil)))) (.cons (.ret (.ands (.cons (.var 3) (.cons (.not (.var 2)) .nil)))) .nil) .nil) (.cons (.ret (.cmp .ne (.var 2) (.var 3))) .nil)))⟩
def e_is_parting : Ent := ⟨49, "is_parting", top 33, ["kind", "wish", "first", "second"], ["kind", "wish"], f_is_parting⟩
theorem b_is_parting (kV doc pm : Value) (an : Option Addr) (cdv ct : Value) (us : List Value) (hl : us.length = e_is_parting.ps.length) : bindArgs (PySem.W.fnOf e_is_parting.x e_is_parting.x (defArgs e_is_parting.st) (defBody e_is_parting.st) (defScope e_is_parting.st) .none kV doc pm an cdv ct) ⟨us, []⟩ = pure (e_is_parting.ps.zip us) := match us, hl with | [_, _], _ => rfl
def f_contrary : Fn := ⟨1, 1, (.cons (.ret (.bin .add (.tup (.cons (.kdc 0 (.idx (.var 0) (.cst (.int (0))))) .nil)) (.slo (.var 0) (.cst (.int (1)))))) .nil)⟩
def e_contrary : Ent := ⟨54, "contrary", top 34, ["wish"], ["wish"], f_contrary⟩
theorem b_contrary (kV doc pm : Value) (an : Option Addr) (cdv ct : Value) (us : List Value) (hl : us.length = e_contrary.ps.length) : bindArgs (PySem.W.fnOf e_contrary.x e_contrary.x (defArgs e_contrary.st) (defBody e_contrary.st) (defScope e_contrary.st) .none kV doc pm an cdv ct) ⟨us, []⟩ = pure (e_contrary.ps.zip us) := match us, hl with | [_], _ => rfl
def f_chosen : Fn := ⟨2, 8, (.cons (.asg 2 (.cm1 (.var 3) (.one 3) (.dat (.var 1)) [3] (.cons (.cmp .isin (.idx (.var 3) (.cst (.int (0)))) (.tup (.cons (.cst (.str (.ofString "same"))) (.cons (.cst (.str (.ofString "covers"))) .nil)))) .nil))) (.cons (.asg 4 (.cm1 (.var 5) (.one 5) (.dat (.call 47 (.cons (.var 0) .nil))) [5] (.cons (.cmp .eq (.cm1 (.var 3) (.one 3) (.dat (.var 2)) [3] (.cons (.call 49 (.cons (.var 5) (.cons (.var 3) .nil))) .nil)) (.lst .nil)) .nil))) (.cons (.asg 6 (.lst .nil)) (.cons (.fr (.one 3) (.dat (.var 1)) (.cons (.ifs (.cmp .notin (.var 3) (.var 2)) (.cons (.asg 7 (.cm1 (.var 5) (.one 5) (.dat (.var 4)) [5] (.cons (.call 49 (.cons (.var 5) (.cons (.var 3) .nil))) .nil))) (.cons (.ifs (.cmp .eq (.var 7) (.lst .nil)) (.cons (.ret (.cst .none)) .nil) .nil) (.cons (.app 6 (.idx (.var 7) (.cst (.int (0))))) .nil))) .nil) .nil)) (.cons (.ret (.var 6)) .nil)))))⟩
def e_chosen : Ent := ⟨50, "chosen", top 35, ["many", "wishes", "calm", "wish", "kinds", "kind", "found", "some"], ["many", "wishes"], f_chosen⟩
theorem b_chosen (kV doc pm : Value) (an : Option Addr) (cdv ct : Value) (us : List Value) (hl : us.length = e_chosen.ps.length) : bindArgs (PySem.W.fnOf e_chosen.x e_chosen.x (defArgs e_chosen.st) (defBody e_chosen.st) (defScope e_chosen.st) .none kV doc pm an cdv ct) ⟨us, []⟩ = pure (e_chosen.ps.zip us) := match us, hl with | [_, _], _ => rfl
def f_can_be : Fn := ⟨2, 2, (.cons (.ret (.isn true (.call 50 (.cons (.var 0) (.cons (.var 1) .nil))))) .nil)⟩
def e_can_be : Ent := ⟨55, "can_be", top 36, ["many", "wishes"], ["many", "wishes"], f_can_be⟩
theorem b_can_be (kV doc pm : Value) (an : Option Addr) (cdv ct : Value) (us : List Value) (hl : us.length = e_can_be.ps.length) : bindArgs (PySem.W.fnOf e_can_be.x e_can_be.x (defArgs e_can_be.st) (defBody e_can_be.st) (defScope e_can_be.st) .none kV doc pm an cdv ct) ⟨us, []⟩ = pure (e_can_be.ps.zip us) := match us, hl with | [_, _], _ => rfl
def f_found_hues : Fn := ⟨2, 5, (.cons (.asg 2 (.call 50 (.cons (.var 0) (.cons (.var 1) .nil)))) (.cons (.ifs (.isn false (.var 2)) (.cons (.ret (.cst .none)) .nil) .nil) (.cons (.ret (.blt .tuple (.cons (.cm1 (.blt .tuple (.cons (.cm1 (.var 3) (.one 3) (.rng (.blt .len (.cons (.var 2) .nil))) [3] (.cons (.cmp .isin (.var 4) (.idx (.var 2) (.var 3))) .nil)) .nil)) (.one 4) (.rng (.var 0)) [4] .nil) .nil))) .nil)))⟩
def e_found_hues : Ent := ⟨51, "found_hues", top 37, ["many", "wishes", "kinds", "at", "paint"], ["many", "wishes"], f_found_hues⟩
theorem b_found_hues (kV doc pm : Value) (an : Option Addr) (cdv ct : Value) (us : List Value) (hl : us.length = e_found_hues.ps.length) : bindArgs (PySem.W.fnOf e_found_hues.x e_found_hues.x (defArgs e_found_hues.st) (defBody e_found_hues.st) (defScope e_found_hues.st) .none kV doc pm an cdv ct) ⟨us, []⟩ = pure (e_found_hues.ps.zip us) := match us, hl with | [_, _], _ => rfl
def f_known : Fn := ⟨3, 3, (.cons (.ifs (.not (.call 55 (.cons (.var 0) (.cons (.var 1) .nil)))) (.cons (.ret (.cst .none)) .nil) .nil) (.cons (.ifs (.not (.call 55 (.cons (.var 0) (.cons (.bin .add (.var 1) (.tup (.cons (.call 54 (.cons (.var 2) .nil)) .nil))) .nil)))) (.cons (.ret (.cst (.bool true))) .nil) .nil) (.cons (.ret (.ite (.call 55 (.cons (.var 0) (.cons (.bin .add (.var 1) (.tup (.cons (.var 2) .nil))) .nil))) (.cst .none) (.cst (.bool false)))) .nil)))⟩
def e_known : Ent := ⟨56, "known", top 39, ["many", "wishes", "claim"], ["many", "wishes", "claim"], f_known⟩
theorem b_known (kV doc pm : Value) (an : Option Addr) (cdv ct : Value) (us : List Value) (hl : us.length = e_known.ps.length) : bindArgs (PySem.W.fnOf e_known.x e_known.x (defArgs e_known.st) (defBody e_known.st) (defScope e_known.st) .none kV doc pm an cdv ct) ⟨us, []⟩ = pure (e_known.ps.zip us) := match us, hl with | [_, _, _], _ => rfl
def f_sure : Fn := ⟨2, 2, (.cons (.exp (.call 34 (.cons (.var 0) (.cons (.var 1) .nil)))) (.cons (.ret (.call 56 (.cons (.idx (.var 0) (.cst (.int (0)))) (.cons (.idx (.var 0) (.cst (.int (1)))) (.cons (.var 1) .nil))))) .nil))⟩
def e_sure : Ent := ⟨57, "sure", top 40, ["book", "claim"], ["book", "claim"], f_sure⟩
theorem b_sure (kV doc pm : Value) (an : Option Addr) (cdv ct : Value) (us : List Value) (hl : us.length = e_sure.ps.length) : bindArgs (PySem.W.fnOf e_sure.x e_sure.x (defArgs e_sure.st) (defBody e_sure.st) (defScope e_sure.st) .none kV doc pm an cdv ct) ⟨us, []⟩ = pure (e_sure.ps.zip us) := match us, hl with | [_, _], _ => rfl
def f_breaking : Fn := ⟨2, 2, (.cons (.exp (.call 34 (.cons (.var 0) (.cons (.var 1) .nil)))) (.cons (.ret (.call 51 (.cons (.idx (.var 0) (.cst (.int (0)))) (.cons (.bin .add (.idx (.var 0) (.cst (.int (1)))) (.tup (.cons (.call 54 (.cons (.var 1) .nil)) .nil))) .nil)))) .nil))⟩
def e_breaking : Ent := ⟨58, "breaking", top 41, ["book", "claim"], ["book", "claim"], f_breaking⟩
theorem b_breaking (kV doc pm : Value) (an : Option Addr) (cdv ct : Value) (us : List Value) (hl : us.length = e_breaking.ps.length) : bindArgs (PySem.W.fnOf e_breaking.x e_breaking.x (defArgs e_breaking.st) (defBody e_breaking.st) (defScope e_breaking.st) .none kV doc pm an cdv ct) ⟨us, []⟩ = pure (e_breaking.ps.zip us) := match us, hl with | [_, _], _ => rfl
def f_law_vat : Fn := ⟨2, 3, (.cons (.asg 2 (.bin .add (.bin .mul (.cst (.int (7919))) (.var 1)) (.cst (.int (43))))) (.cons (.ifs (.cmp .lt (.var 1) (.blt .len (.cons (.var 0) .nil))) (.cons (.asg 2 (.blt .abs (.cons (.blt .int (.cons (.idx (.var 0) (.var 1)) .nil)) .nil))) .nil) .nil) (.cons (.ret (.lst (.cons (.ite (.cmp .ge (.var 2) (.pow 10 18)) (.var 2) (.cst (.int (0)))) (.cons (.bin .add (.bin .mod (.blt .int (.cons (.bin .add (.bin .add (.bin .mul (.var 2) (.cst (.int (131071)))) (.bin .mul (.cst (.int (8191))) (.var 1))) (.cst (.int (5)))) .nil)) (.cst (.int (2147483629)))) (.cst (.int (1)))) .nil)))) .nil)))⟩
def e_law_vat : Ent := ⟨10, "_law_vat", top 43, ["script", "k", "cell"], ["script", "k"], f_law_vat⟩
theorem b_law_vat (kV doc pm : Value) (an : Option Addr) (cdv ct : Value) (us : List Value) (hl : us.length = e_law_vat.ps.length) : bindArgs (PySem.W.fnOf e_law_vat.x e_law_vat.x (defArgs e_law_vat.st) (defBody e_law_vat.st) (defScope e_law_vat.st) .none kV doc pm an cdv ct) ⟨us, []⟩ = pure (e_law_vat.ps.zip us) := match us, hl with | [_, _], _ => rfl
def f_law_under : Fn := ⟨2, 4, (.cons (.ifs (.cmp .gt (.idx (.var 0) (.cst (.int (0)))) (.cst (.int (0)))) (.cons (.asg 2 (.bin .mod (.blt .int (.cons (.idx (.var 0) (.cst (.int (0)))) .nil)) (.var 1))) (.cons (.sti 0 (.cst (.int (0))) (.bin .fdiv (.idx (.var 0) (.cst (.int (0)))) (.var 1))) (.cons (.ret (.var 2)) .nil))) .nil) (.cons (.sti 0 (.cst (.int (1))) (.bin .mod (.blt .int (.cons (.bin .add (.bin .mul (.idx (.var 0) (.cst (.int (1)))) (.cst (.int (39373)))) (.cst (.int (101)))) .nil)) (.cst (.int (2147483629))))) (.cons (.asg 3 (.bin .mod (.blt .int (.cons (.bin .mul (.idx (.var 0) (.cst (.int (1)))) (.bin .add (.bin .fdiv (.idx (.var 0) (.cst (.int (1)))) (.cst (.int (5)))) (.cst (.int (9))))) .nil)) (.cst (.int (2147483587))))) (.cons (.ret (.bin .mod (.blt .int (.cons (.bin .fdiv (.var 3) (.cst (.int (32)))) .nil)) (.var 1))) .nil))))⟩
def e_law_under : Ent := ⟨11, "_law_under", top 44, ["vat", "many", "found", "wide"], ["vat", "many"], f_law_under⟩
theorem b_law_under (kV doc pm : Value) (an : Option Addr) (cdv ct : Value) (us : List Value) (hl : us.length = e_law_under.ps.length) : bindArgs (PySem.W.fnOf e_law_under.x e_law_under.x (defArgs e_law_under.st) (defBody e_law_under.st) (defScope e_law_under.st) .none kV doc pm an cdv ct) ⟨us, []⟩ = pure (e_law_under.ps.zip us) := match us, hl with | [_, _], _ => rfl
def f_law_some : Fn := ⟨2, 2, (.cons (.ret (.idx (.var 1) (.call 11 (.cons (.var 0) (.cons (.blt .len (.cons (.var 1) .nil)) .nil))))) .nil)⟩
def e_law_some : Ent := ⟨12, "_law_some", top 45, ["vat", "things"], ["vat", "things"], f_law_some⟩
theorem b_law_some (kV doc pm : Value) (an : Option Addr) (cdv ct : Value) (us : List Value) (hl : us.length = e_law_some.ps.length) : bindArgs (PySem.W.fnOf e_law_some.x e_law_some.x (defArgs e_law_some.st) (defBody e_law_some.st) (defScope e_law_some.st) .none kV doc pm an cdv ct) ⟨us, []⟩ = pure (e_law_some.ps.zip us) := match us, hl with | [_, _], _ => rfl
def f_law_is_whole : Fn := ⟨3, 3, (.cons (.ret (.ands (.cons (.isi (.var 0) .int) (.cons (.not (.isi (.var 0) .bool)) (.cons (.chn (.var 1) .le (.var 0) .le (.var 2)) .nil))))) .nil)⟩
def e_law_is_whole : Ent := ⟨13, "_law_is_whole", top 46, ["value", "low", "high"], ["value", "low", "high"], f_law_is_whole⟩
theorem b_law_is_whole (kV doc pm : Value) (an : Option Addr) (cdv ct : Value) (us : List Value) (hl : us.length = e_law_is_whole.ps.length) : bindArgs (PySem.W.fnOf e_law_is_whole.x e_law_is_whole.x (defArgs e_law_is_whole.st) (defBody e_law_is_whole.st) (defScope e_law_is_whole.st) .none kV doc pm an cdv ct) ⟨us, []⟩ = pure (e_law_is_whole.ps.zip us) := match us, hl with | [_, _, _], _ => rfl
def f_law_truly : Fn := ⟨2, 2, (.cons (.ret (.ands (.cons (.isi (.var 0) .bool) (.cons (.cmp .eq (.var 0) (.var 1)) .nil)))) .nil)⟩
def e_law_truly : Ent := ⟨14, "_law_truly", top 47, ["found", "due"], ["found", "due"], f_law_truly⟩
theorem b_law_truly (kV doc pm : Value) (an : Option Addr) (cdv ct : Value) (us : List Value) (hl : us.length = e_law_truly.ps.length) : bindArgs (PySem.W.fnOf e_law_truly.x e_law_truly.x (defArgs e_law_truly.st) (defBody e_law_truly.st) (defScope e_law_truly.st) .none kV doc pm an cdv ct) ⟨us, []⟩ = pure (e_law_truly.ps.zip us) := match us, hl with | [_, _], _ => rfl
def f_law_is_rising : Fn := ⟨2, 3, (.cons (.ifs (.not (.isi (.var 0) .tuple)) (.cons (.ret (.cst (.bool false))) .nil) .nil) (.cons (.ifs (.cmp .ne (.cm1 (.var 2) (.one 2) (.dat (.var 0)) [2] (.cons (.not (.call 13 (.cons (.var 2) (.cons (.cst (.int (0))) (.cons (.var 1) .nil))))) .nil)) (.lst .nil)) (.cons (.ret (.cst (.bool false))) .nil) .nil) (.cons (.ret (.cmp .eq (.blt .list (.cons (.var 0) .nil)) (.sse (.var 0)))) .nil)))⟩
def e_law_is_rising : Ent := ⟨15, "_law_is_rising", top 48, ["value", "most", "one"], ["value", "most"], f_law_is_rising⟩
theorem b_law_is_rising (kV doc pm : Value) (an : Option Addr) (cdv ct : Value) (us : List Value) (hl : us.length = e_law_is_rising.ps.length) : bindArgs (PySem.W.fnOf e_law_is_rising.x e_law_is_rising.x (defArgs e_law_is_rising.st) (defBody e_law_is_rising.st) (defScope e_law_is_rising.st) .none kV doc pm an cdv ct) ⟨us, []⟩ = pure (e_law_is_rising.ps.zip us) := match us, hl with | [_, _], _ => rfl
def f_law_are_hues : Fn := ⟨2, 3, (.cons (.ifs (.ors (.cons (.not (.isi (.var 1) .tuple)) (.cons (.cmp .ne (.blt .len (.cons (.var 1) .nil)) (.var 0)) .nil))) (.cons (.ret (.cst (.bool false))) .nil) .nil) (.cons (.ret (.cmp .eq (.cm1 (.var 2) (.one 2) (.dat (.var 1)) [2] (.cons (.not (.call 15 (.cons (.var 2) (.cons (.cst (.int (63))) .nil)))) .nil)) (.lst .nil))) .nil))⟩
def e_law_are_hues : Ent := ⟨19, "_law_are_hues", top 49, ["many", "value", "hues"], ["many", "value"], f_law_are_hues⟩
theorem b_law_are_hues (kV doc pm : Value) (an : Option Addr) (cdv ct : Value) (us : List Value) (hl : us.length = e_law_are_hues.ps.length) : bindArgs (PySem.W.fnOf e_law_are_hues.x e_law_are_hues.x (defArgs e_law_are_hues.st) (defBody e_law_are_hues.st) (defScope e_law_are_hues.st) .none kV doc pm an cdv ct) ⟨us, []⟩ = pure (e_law_are_hues.ps.zip us) := match us, hl with | [_, _], _ => rfl
def f_law_shown : Fn := ⟨2, 5, (.cons (.asg 2 (.lst .nil)) (.cons (.fr (.one 3) (.dat (.var 1)) (.cons (.asg 2 (.bin .add (.var 2) (.cm1 (.var 4) (.one 4) (.dat (.idx (.var 0) (.var 3))) [4] (.cons (.cmp .notin (.var 4) (.var 2)) .nil)))) .nil)) (.cons (.ret (.blt .tuple (.cons (.blt .sorted (.cons (.var 2) .nil)) .nil))) .nil)))⟩
def e_law_shown : Ent := ⟨43, "_law_shown", top 50, ["hues", "mixture", "found", "paint", "hue"], ["hues", "mixture"], f_law_shown⟩
theorem b_law_shown (kV doc pm : Value) (an : Option Addr) (cdv ct : Value) (us : List Value) (hl : us.length = e_law_shown.ps.length) : bindArgs (PySem.W.fnOf e_law_shown.x e_law_shown.x (defArgs e_law_shown.st) (defBody e_law_shown.st) (defScope e_law_shown.st) .none kV doc pm an cdv ct) ⟨us, []⟩ = pure (e_law_shown.ps.zip us) := match us, hl with | [_, _], _ => rfl
def f_law_so : Fn := ⟨2, 4, (.cons (.asgs [2, 3] (.cons (.call 43 (.cons (.var 0) (.cons (.idx (.var 1) (.cst (.int (1)))) .nil))) (.cons (.call 43 (.cons (.var 0) (.cons (.idx (.var 1) (.cst (.int (2)))) .nil))) .nil))) (.cons (.ifs (.cmp .eq (.idx (.var 1) (.cst (.int (0)))) (.cst (.str (.ofString "covers")))) (.cons (.ret (.cmp .eq (.call 43 (.cons (.var 0) (.cons (.bin .add (.idx (.var 1) (.cst (.int (1)))) (.idx (.var 1) (.cst (.int (2))))) .nil))) (.var 2))) .nil) .nil) (.cons (.ret (.cmp .eq (.cmp .eq (.var 2) (.var 3)) (.cmp .eq (.idx (.var 1) (.cst (.int (0)))) (.cst (.str (.ofString "same")))))) .nil)))⟩
def e_law_so : Ent := ⟨44, "_law_so", top 51, ["hues", "fact", "first", "second"], ["hues", "fact"], f_law_so⟩
theorem b_law_so (kV doc pm : Value) (an : Option Addr) (cdv ct : Value) (us : List Value) (hl : us.length = e_law_so.ps.length) : bindArgs (PySem.W.fnOf e_law_so.x e_law_so.x (defArgs e_law_so.st) (defBody e_law_so.st) (defScope e_law_so.st) .none kV doc pm an cdv ct) ⟨us, []⟩ = pure (e_law_so.ps.zip us) := match us, hl with | [_, _], _ => rfl
def f_law_kept : Fn := ⟨2, 3, (.cons (.ret (.cmp .eq (.cm1 (.var 2) (.one 2) (.dat (.var 1)) [2] (.cons (.not (.call 44 (.cons (.var 0) (.cons (.var 2) .nil)))) .nil)) (.lst .nil))) .nil)⟩
def e_law_kept : Ent := ⟨45, "_law_kept", top 52, ["hues", "facts", "fact"], ["hues", "facts"], f_law_kept⟩
theorem b_law_kept (kV doc pm : Value) (an : Option Addr) (cdv ct : Value) (us : List Value) (hl : us.length = e_law_kept.ps.length) : bindArgs (PySem.W.fnOf e_law_kept.x e_law_kept.x (defArgs e_law_kept.st) (defBody e_law_kept.st) (defScope e_law_kept.st) .none kV doc pm an cdv ct) ⟨us, []⟩ = pure (e_law_kept.ps.zip us) := match us, hl with | [_, _], _ => rfl
def f_law_joined : Fn := ⟨2, 3, (.cons (.ret (.blt .tuple (.cons (.sse (.cm1 (.blt .int (.cons (.var 2) .nil)) (.one 2) (.dat (.bin .add (.var 0) (.var 1))) [2] .nil)) .nil))) .nil)⟩
def e_law_joined : Ent := ⟨20, "_law_joined", top 53, ["one", "other", "paint"], ["one", "other"], f_law_joined⟩
theorem b_law_joined (kV doc pm : Value) (an : Option Addr) (cdv ct : Value) (us : List Value) (hl : us.length = e_law_joined.ps.length) : bindArgs (PySem.W.fnOf e_law_joined.x e_law_joined.x (defArgs e_law_joined.st) (defBody e_law_joined.st) (defScope e_law_joined.st) .none kV doc pm an cdv ct) ⟨us, []⟩ = pure (e_law_joined.ps.zip us) := match us, hl with | [_, _], _ => rfl
def f_law_has : Fn := ⟨2, 3, (.cons (.ret (.cmp .eq (.cm1 (.var 2) (.one 2) (.dat (.var 1)) [2] (.cons (.cmp .notin (.var 2) (.var 0)) .nil)) (.lst .nil))) .nil)⟩
def e_law_has : Ent := ⟨21, "_law_has", top 54, ["mixture", "part", "paint"], ["mixture", "part"], f_law_has⟩
theorem b_law_has (kV doc pm : Value) (an : Option Addr) (cdv ct : Value) (us : List Value) (hl : us.length = e_law_has.ps.length) : bindArgs (PySem.W.fnOf e_law_has.x e_law_has.x (defArgs e_law_has.st) (defBody e_law_has.st) (defScope e_law_has.st) .none kV doc pm an cdv ct) ⟨us, []⟩ = pure (e_law_has.ps.zip us) := match us, hl with | [_, _], _ => rfl
def f_law_closed : Fn := ⟨2, 6, (.cons (.asg 2 (.cst .none)) (.cons (.whl (.cmp .ne (.var 2) (.var 1)) (.cons (.asg 2 (.var 1)) (.cons (.fr (.tup [3, 4, 5]) (.dat (.var 0)) (.cons (.ifs (.ands (.cons (.cmp .isin (.var 3) (.tup (.cons (.cst (.str (.ofString "same"))) (.cons (.cst (.str (.ofString "covers"))) .nil)))) (.cons (.call 21 (.cons (.var 1) (.cons (.var 4) .nil))) .nil))) (.cons (.asg 1 (.call 20 (.cons (.var 1) (.cons (.var 5) .nil)))) .nil) .nil) (.cons (.ifs (.ands (.cons (.cmp .eq (.var 3) (.cst (.str (.ofString "same")))) (.cons (.call 21 (.cons (.var 1) (.cons (.var 5) .nil))) .nil))) (.cons (.asg 1 (.call 20 (.cons (.var 1) (.cons (.var 4) .nil)))) .nil) .nil) .nil))) .nil))) (.cons (.ret (.var 1)) .nil)))⟩
def e_law_closed : Ent := ⟨22, "_law_closed", top 55, ["facts", "mixture", "before", "word", "one", "other"], ["facts", "mixture"], f_law_closed⟩
theorem b_law_closed (kV doc pm : Value) (an : Option Addr) (cdv ct : Value) (us : List Value) (hl : us.length = e_law_closed.ps.length) : bindArgs (PySem.W.fnOf e_law_closed.x e_law_closed.x (defArgs e_law_closed.st) (defBody e_law_closed.st) (defScope e_law_closed.st) .none kV doc pm an cdv ct) ⟨us, []⟩ = pure (e_law_closed.ps.zip us) := match us, hl with | [_, _], _ => rfl
def f_law_can : Fn := ⟨1, 5, (.cons (.fr (.tup [1, 2, 3]) (.dat (.var 0)) (.cons (.asg 4 (.call 22 (.cons (.var 0) (.cons (.var 2) .nil)))) (.cons (.ifs (.ands (.cons (.cmp .eq (.var 1) (.cst (.str (.ofString "unlike")))) (.cons (.cmp .eq (.var 4) (.call 22 (.cons (.var 0) (.cons (.var 3) .nil)))) .nil))) (.cons (.ret (.cst (.bool false))) .nil) .nil) (.cons (.ifs (.ands (.cons (.cmp .eq (.var 1) (.cst (.str (.ofString "bares")))) (.cons (.call 21 (.cons (.var 4) (.cons (.var 3) .nil))) .nil))) (.cons (.ret (.cst (.bool false))) .nil) .nil) .nil)))) (.cons (.ret (.cst (.bool true))) .nil))⟩
def e_law_can : Ent := ⟨23, "_law_can", top 56, ["wishes", "word", "one", "other", "end"], ["wishes"], f_law_can⟩
theorem b_law_can (kV doc pm : Value) (an : Option Addr) (cdv ct : Value) (us : List Value) (hl : us.length = e_law_can.ps.length) : bindArgs (PySem.W.fnOf e_law_can.x e_law_can.x (defArgs e_law_can.st) (defBody e_law_can.st) (defScope e_law_can.st) .none kV doc pm an cdv ct) ⟨us, []⟩ = pure (e_law_can.ps.zip us) := match us, hl with | [_], _ => rfl
def f_law_contrary : Fn := ⟨1, 2, (.dct 1 [(.ofString "same", .ofString "unlike"), (.ofString "unlike", .ofString "same"), (.ofString "covers", .ofString "bares")] (.idx (.var 0) (.cst (.int (0)))) (.slo (.var 0) (.cst (.int (1)))))⟩
def e_law_contrary : Ent := ⟨59, "_law_contrary", top 57, ["claim", "pairs"], ["claim"], f_law_contrary⟩
theorem b_law_contrary (kV doc pm : Value) (an : Option Addr) (cdv ct : Value) (us : List Value) (hl : us.length = e_law_contrary.ps.length) : bindArgs (PySem.W.fnOf e_law_contrary.x e_law_contrary.x (defArgs e_law_contrary.st) (defBody e_law_contrary.st) (defScope e_law_contrary.st) .none kV doc pm an cdv ct) ⟨us, []⟩ = pure (e_law_contrary.ps.zip us) := match us, hl with | [_], _ => rfl
def f_law_sure : Fn := ⟨2, 2, (.cons (.ifs (.not (.call 23 (.cons (.var 0) .nil))) (.cons (.ret (.cst .none)) .nil) .nil) (.cons (.ifs (.not (.call 23 (.cons (.bin .add (.var 0) (.tup (.cons (.call 59 (.cons (.var 1) .nil)) .nil))) .nil))) (.cons (.ret (.cst (.bool true))) .nil) .nil) (.cons (.ret (.ite (.call 23 (.cons (.bin .add (.var 0) (.tup (.cons (.var 1) .nil))) .nil)) (.cst .none) (.cst (.bool false)))) .nil)))⟩
def e_law_sure : Ent := ⟨60, "_law_sure", top 58, ["facts", "claim"], ["facts", "claim"], f_law_sure⟩
theorem b_law_sure (kV doc pm : Value) (an : Option Addr) (cdv ct : Value) (us : List Value) (hl : us.length = e_law_sure.ps.length) : bindArgs (PySem.W.fnOf e_law_sure.x e_law_sure.x (defArgs e_law_sure.st) (defBody e_law_sure.st) (defScope e_law_sure.st) .none kV doc pm an cdv ct) ⟨us, []⟩ = pure (e_law_sure.ps.zip us) := match us, hl with | [_, _], _ => rfl
def f_law_mixture : Fn := ⟨2, 4, (.cons (.asg 2 (.cm1 (.var 3) (.one 3) (.rng (.var 1)) [3] (.cons (.cmp .eq (.call 11 (.cons (.var 0) (.cons (.cst (.int (3))) .nil))) (.cst (.int (0)))) .nil))) (.cons (.ret (.ite (.cmp .ne (.var 2) (.lst .nil)) (.blt .tuple (.cons (.var 2) .nil)) (.tup (.cons (.call 11 (.cons (.var 0) (.cons (.var 1) .nil))) .nil)))) .nil))⟩
def e_law_mixture : Ent := ⟨24, "_law_mixture", top 59, ["vat", "many", "some", "paint"], ["vat", "many"], f_law_mixture⟩
theorem b_law_mixture (kV doc pm : Value) (an : Option Addr) (cdv ct : Value) (us : List Value) (hl : us.length = e_law_mixture.ps.length) : bindArgs (PySem.W.fnOf e_law_mixture.x e_law_mixture.x (defArgs e_law_mixture.st) (defBody e_law_mixture.st) (defScope e_law_mixture.st) .none kV doc pm an cdv ct) ⟨us, []⟩ = pure (e_law_mixture.ps.zip us) := match us, hl with | [_, _], _ => rfl
def f_law_fact : Fn := ⟨2, 3, (.cons (.asg 2 (.call 12 (.cons (.var 0) (.cons (.lst (.cons (.cst (.str (.ofString "same"))) (.cons (.cst (.str (.ofString "same"))) (.cons (.cst (.str (.ofString "covers"))) (.cons (.cst (.str (.ofString "covers"))) (.cons (.cst (.str (.ofString "unlike"))) .nil)))))) .nil)))) (.cons (.ret (.tup (.cons (.var 2) (.cons (.call 24 (.cons (.var 0) (.cons (.var 1) .nil))) (.cons (.call 24 (.cons (.var 0) (.cons (.var 1) .nil))) .nil))))) .nil))⟩
def e_law_fact : Ent := ⟨25, "_law_fact", top 60, ["vat", "many", "word"], ["vat", "many"], f_law_fact⟩
theorem b_law_fact (kV doc pm : Value) (an : Option Addr) (cdv ct : Value) (us : List Value) (hl : us.length = e_law_fact.ps.length) : bindArgs (PySem.W.fnOf e_law_fact.x e_law_fact.x (defArgs e_law_fact.st) (defBody e_law_fact.st) (defScope e_law_fact.st) .none kV doc pm an cdv ct) ⟨us, []⟩ = pure (e_law_fact.ps.zip us) := match us, hl with | [_, _], _ => rfl
def f_law_book : Fn := ⟨3, 7, (.cons (.asgs [3, 4] (.cons (.bin .add (.cst (.int (2))) (.call 11 (.cons (.var 0) (.cons (.bin .sub (.var 1) (.cst (.int (1)))) .nil)))) (.cons (.tup .nil) .nil))) (.cons (.fr (.one 5) (.rng (.call 11 (.cons (.var 0) (.cons (.bin .add (.var 2) (.cst (.int (1)))) .nil)))) (.cons (.asg 6 (.call 25 (.cons (.var 0) (.cons (.var 3) .nil)))) (.cons (.ifs (.ors (.cons (.call 23 (.cons (.bin .add (.var 4) (.tup (.cons (.var 6) .nil))) .nil)) (.cons (.cmp .eq (.call 11 (.cons (.var 0) (.cons (.cst (.int (9))) .nil))) (.cst (.int (0)))) .nil))) (.cons (.asg 4 (.bin .add (.var 4) (.tup (.cons (.var 6) .nil)))) .nil) .nil) .nil))) (.cons (.ret (.tup (.cons (.var 3) (.cons (.var 4) .nil)))) .nil)))⟩
def e_law_book : Ent := ⟨26, "_law_book", top 61, ["vat", "most", "size", "many", "facts", "turn", "fact"], ["vat", "most", "size"], f_law_book⟩
theorem b_law_book (kV doc pm : Value) (an : Option Addr) (cdv ct : Value) (us : List Value) (hl : us.length = e_law_book.ps.length) : bindArgs (PySem.W.fnOf e_law_book.x e_law_book.x (defArgs e_law_book.st) (defBody e_law_book.st) (defScope e_law_book.st) .none kV doc pm an cdv ct) ⟨us, []⟩ = pure (e_law_book.ps.zip us) := match us, hl with | [_, _, _], _ => rfl
def f_law_hues : Fn := ⟨2, 6, (.cons (.asg 2 (.bin .add (.cst (.int (1))) (.call 11 (.cons (.var 0) (.cons (.cst (.int (4))) .nil))))) (.cons (.asg 3 (.lst .nil)) (.cons (.fr (.one 4) (.rng (.var 1)) (.cons (.app 3 (.blt .tuple (.cons (.cm1 (.var 5) (.one 5) (.rng (.var 2)) [5] (.cons (.cmp .eq (.call 11 (.cons (.var 0) (.cons (.cst (.int (2))) .nil))) (.cst (.int (0)))) .nil)) .nil))) .nil)) (.cons (.ret (.blt .tuple (.cons (.var 3) .nil))) .nil))))⟩
def e_law_hues : Ent := ⟨27, "_law_hues", top 62, ["vat", "many", "kinds", "rows", "paint", "hue"], ["vat", "many"], f_law_hues⟩
theorem b_law_hues (kV doc pm : Value) (an : Option Addr) (cdv ct : Value) (us : List Value) (hl : us.length = e_law_hues.ps.length) : bindArgs (PySem.W.fnOf e_law_hues.x e_law_hues.x (defArgs e_law_hues.st) (defBody e_law_hues.st) (defScope e_law_hues.st) .none kV doc pm an cdv ct) ⟨us, []⟩ = pure (e_law_hues.ps.zip us) := match us, hl with | [_, _], _ => rfl
def f_law_judged_2 : Fn := ⟨3, 9, (.cons (.asgs [3, 4] (.cons (.call 60 (.cons (.idx (.var 1) (.cst (.int (1)))) (.cons (.var 2) .nil))) (.cons (.call 57 (.cons (.var 1) (.cons (.var 2) .nil))) .nil))) (.cons (.ifs (.ors (.cons (.cmp .ne (.isn false (.var 4)) (.isn false (.var 3))) (.cons (.ands (.cons (.isn true (.var 3)) (.cons (.not (.call 14 (.cons (.var 4) (.cons (.var 3) .nil)))) .nil))) .nil))) (.cons (.ret (.cst (.bool false))) .nil) .nil) (.cons (.asgs [5, 6] (.cons (.call 58 (.cons (.var 1) (.cons (.var 2) .nil))) (.cons (.call 23 (.cons (.bin .add (.idx (.var 1) (.cst (.int (1)))) (.tup (.cons (.call 59 (.cons (.var 2) .nil)) .nil))) .nil)) .nil))) (.cons (.ifs (.cmp .eq (.isn false (.var 5)) (.var 6)) (.cons (.ret (.cst (.bool false))) .nil) .nil) (.cons (.ifs (.isn true (.var 5)) (.cons (.ifs (.ors (.cons (.not (.call 19 (.cons (.idx (.var 1) (.cst (.int (0)))) (.cons (.var 5) .nil)))) (.cons (.not (.call 45 (.cons (.var 5) (.cons (.idx (.var 1) (.cst (.int (1)))) .nil)))) (.cons (.call 44 (.cons (.var 5) (.cons (.var 2) .nil))) .nil)))) (.cons (.ret (.cst (.bool false))) .nil) .nil) .nil) .nil) (.cons (.fr (.one 7) (.rng (.cst (.int (6)))) (.cons (.asg 8 (.call 27 (.cons (.var 0) (.cons (.idx (.var 1) (.cst (.int (0)))) .nil)))) (.cons (.ifs (.ands (.cons (.isn true (.var 3)) (.cons (.call 45 (.cons (.var 8) (.cons (.idx (.var 1) (.cst (.int (1)))) .nil))) (.cons (.cmp .ne (.call 44 (.cons (.var 8) (.cons (.var 2) .nil))) (.var 3)) .nil)))) (.cons (.ret (.cst (.bool false))) .nil) .nil) .nil))) (.cons (.ret (.cst (.bool true))) .nil)))))))⟩
def e_law_judged_2 : Ent := ⟨61, "_law_judged", top 65, ["vat", "book", "claim", "due", "found", "paints", "can", "turn", "hues"], ["vat", "book", "claim"], f_law_judged_2⟩
theorem b_law_judged_2 (kV doc pm : Value) (an : Option Addr) (cdv ct : Value) (us : List Value) (hl : us.length = e_law_judged_2.ps.length) : bindArgs (PySem.W.fnOf e_law_judged_2.x e_law_judged_2.x (defArgs e_law_judged_2.st) (defBody e_law_judged_2.st) (defScope e_law_judged_2.st) .none kV doc pm an cdv ct) ⟨us, []⟩ = pure (e_law_judged_2.ps.zip us) := match us, hl with | [_, _, _], _ => rfl
def f_law_k04 : Fn := ⟨1, 13, (.cons (.fr (.one 1) (.rng (.blt .max2 (.cons (.cst (.int (6))) (.cons (.blt .min2 (.cons (.cst (.int (14))) (.cons (.blt .len (.cons (.var 0) .nil)) .nil))) .nil)))) (.cons (.newh 2 (.call 10 (.cons (.var 0) (.cons (.var 1) .nil)))) (.cons (.fr (.one 3) (.rng (.cst (.int (5)))) (.cons (.asg 4 (.call 26 (.cons (.var 2) (.cons (.cst (.int (6))) (.cons (.cst (.int (5))) .nil))))) (.cons (.ifs (.not (.call 61 (.cons (.var 2) (.cons (.var 4) (.cons (.call 25 (.cons (.var 2) (.cons (.idx (.var 4) (.cst (.int (0)))) .nil))) .nil))))) (.cons (.ret (.cst (.bool false))) .nil) .nil) .nil))) (.cons (.fr (.one 5) (.dat (.lst (.cons (.cst .none) (.cons (.tup .nil) (.cons (.tup (.cons (.cst (.str (.ofString "same"))) (.cons (.tup (.cons (.cst (.int (0))) .nil)) .nil))) (.cons (.tup (.cons (.cst (.str (.ofString "bares"))) (.cons (.tup (.cons (.cst (.int (0))) .nil)) (.cons (.tup (.cons (.cst (.int (1))) .nil)) .nil)))) (.cons (.tup (.cons (.cst (.str (.ofString "same"))) (.cons (.tup (.cons (.cst (.int (0))) .nil)) (.cons (.tup (.cons (.idx (.var 4) (.cst (.int (0)))) .nil)) .nil)))) .nil))))))) (.cons (.ifs (.cmp .ne (.cm1 (.ler (.cav 6 (.cons (.var 4) (.cons (.var 5) .nil)))) (.one 6) (.fns [57, 58]) [6] .nil) (.bin .mul (.lst (.cons (.cst (.str (.ofString "claim value"))) .nil)) (.cst (.int (2))))) (.cons (.ret (.cst (.bool false))) .nil) .nil) .nil)) .nil)))) (.cons (.asgs [7, 8, 9] (.cons (.tup (.cons (.cst (.int (0))) .nil)) (.cons (.tup (.cons (.cst (.int (1))) .nil)) (.cons (.tup (.cons (.cst (.int (2))) .nil)) .nil)))) (.cons (.asgs [4, 10] (.cons (.tup (.cons (.cst (.int (3))) (.cons (.tup (.cons (.tup (.cons (.cst (.str (.ofString "same"))) (.cons (.tup (.cons (.cst (.int (0))) (.cons (.cst (.int (1))) .nil))) (.cons (.var 9) .nil)))) .nil)) .nil))) (.cons (.tup (.cons (.cst (.int (3))) (.cons (.tup (.cons (.tup (.cons (.cst (.str (.ofString "same"))) (.cons (.tup (.cons (.cst (.int (0))) (.cons (.cst (.int (1))) .nil))) (.cons (.var 9) .nil)))) (.cons (.tup (.cons (.cst (.str (.ofString "unlike"))) (.cons (.var 7) (.cons (.var 9) .nil)))) .nil))) .nil))) .nil))) (.cons (.asg 11 (.lst (.cons (.tup (.cons (.cst (.str (.ofString "same"))) (.cons (.tup (.cons (.cst (.int (0))) (.cons (.cst (.int (2))) .nil))) (.cons (.tup (.cons (.cst (.int (1))) (.cons (.cst (.int (2))) .nil))) .nil)))) (.cons (.tup (.cons (.cst (.str (.ofString "same"))) (.cons (.var 7) (.cons (.var 9) .nil)))) (.cons (.tup (.cons (.cst (.str (.ofString "covers"))) (.cons (.var 9) (.cons (.var 7) .nil)))) (.cons (.tup (.cons (.cst (.str (.ofString "unlike"))) (.cons (.var 7) (.cons (.var 8) .nil)))) (.cons (.tup (.cons (.cst (.str (.ofString "covers"))) (.cons (.var 7) (.cons (.var 8) .nil)))) .nil))))))) (.cons (.ifs (.cmp .ne (.cm1 (.call 57 (.cons (.var 4) (.cons (.var 12) .nil))) (.one 12) (.dat (.var 11)) [12] .nil) (.lst (.cons (.cst (.bool true)) (.cons (.cst .none) (.cons (.cst (.bool true)) (.cons (.cst .none) (.cons (.cst .none) .nil))))))) (.cons (.ret (.cst (.bool false))) .nil) .nil) (.cons (.ifs (.cmp .ne (.cm1 (.call 57 (.cons (.var 10) (.cons (.var 12) .nil))) (.one 12) (.dat (.var 11)) [12] .nil) (.lst (.cons (.cst (.bool true)) (.cons (.cst (.bool false)) (.cons (.cst (.bool true)) (.cons (.cst (.bool true)) (.cons (.cst (.bool false)) .nil))))))) (.cons (.ret (.cst (.bool false))) .nil) .nil) (.cons (.ifs (.ors (.cons (.isn true (.call 57 (.cons (.tup (.cons (.cst (.int (2))) (.cons (.tup (.cons (.tup (.cons (.cst (.str (.ofString "unlike"))) (.cons (.var 7) (.cons (.var 7) .nil)))) .nil)) .nil))) (.cons (.tup (.cons (.cst (.str (.ofString "same"))) (.cons (.var 7) (.cons (.var 7) .nil)))) .nil)))) (.cons (.isn true (.call 58 (.cons (.var 4) (.cons (.idx (.var 11) (.cst (.int (0)))) .nil)))) .nil))) (.cons (.ret (.cst (.bool false))) .nil) .nil) (.cons (.ret (.ands (.cons (.isn false (.call 57 (.cons (.var 10) (.cons (.tup (.cons (.cst (.str (.ofString "unlike"))) (.cons (.var 8) (.cons (.var 9) .nil)))) .nil)))) (.cons (.isb (.call 57 (.cons (.var 4) (.cons (.tup (.cons (.cst (.str (.ofString "unlike"))) (.cons (.var 7) (.cons (.var 7) .nil)))) .nil))) false) .nil)))) .nil))))))))⟩
def e_law_k04 : Ent := ⟨62, "law", top 66, ["script", "k", "vat", "turn", "book", "odd", "call", "one", "two", "three", "firm", "claims", "claim"], ["script"], f_law_k04⟩
theorem b_law_k04 (kV doc pm : Value) (an : Option Addr) (cdv ct : Value) (us : List Value) (hl : us.length = e_law_k04.ps.length) : bindArgs (PySem.W.fnOf e_law_k04.x e_law_k04.x (defArgs e_law_k04.st) (defBody e_law_k04.st) (defScope e_law_k04.st) .none kV doc pm an cdv ct) ⟨us, []⟩ = pure (e_law_k04.ps.zip us) := match us, hl with | [_], _ => rfl
def nt : TnH.NTxt := ⟨"e", "some", "labels", "word", "good", (.ofString "book claim mixture hues script number truth wanted trials plan pot none"), (.ofString " unlike quarrel undo text many value"), [.asg ["InvalidBook", "InvalidClaim", "InvalidMixture"], .add ["InvalidHues", "InvalidScript", "InvalidNumber"], .add ["InvalidTruth", "InvalidWanted"], .app "InvalidTrials", .add ["InvalidPlan", "InvalidPot", "NoPaints"], .add ["Unlike", "Quarrel", "NothingToUndo"], .add ["InvalidText", "TooMany", "ValueError"]], ["InvalidBook", "InvalidClaim", "InvalidMixture", "InvalidHues", "InvalidScript", "InvalidNumber", "InvalidTruth", "InvalidWanted", "InvalidTrials", "InvalidPlan", "InvalidPot", "NoPaints", "Unlike", "Quarrel", "NothingToUndo", "InvalidText", "TooMany", "ValueError"]⟩
def et : ErrT := ⟨"_law_error", top 64, "call", "PaintError", "e", "_law_names", top 63, nt, [(0, .ofString "book value"), (1, .ofString "claim value")]⟩
theorem et_ok : et.okB = true := by decide +kernel
theorem et_b1 : BdOk et.x et.st [et.a] := fun kV doc pm an cdv ct us hl => match us, hl with | [_], _ => rfl
theorem et_b2 : BdOk et.gx et.gst [et.t.en] := fun kV doc pm an cdv ct us hl => match us, hl with | [_], _ => rfl
def txt : Txt := ⟨[e_is_whole, e_is_rising, e_is_mixture, e_is_fact, e_has_book, e_need_book, e_need_claim, e_all_kinds, e_meets, e_is_parting, e_contrary, e_chosen, e_can_be, e_found_hues, e_known, e_sure, e_breaking, e_law_vat, e_law_under, e_law_some, e_law_is_whole, e_law_truly, e_law_is_rising, e_law_are_hues, e_law_shown, e_law_so, e_law_kept, e_law_joined, e_law_has, e_law_closed, e_law_can, e_law_contrary, e_law_sure, e_law_mixture, e_law_fact, e_law_book, e_law_hues, e_law_judged_2, e_law_k04], [(0, "WORDS", (.tuple [(.str (.ofString "same")), (.str (.ofString "covers")), (.str (.ofString "unlike"))])), (1, "MOST_FACTS", (.int (6)))], [(0, "CONTRARY", [((.ofString "same"), (.str (.ofString "unlike"))), ((.ofString "unlike"), (.str (.ofString "same"))), ((.ofString "covers"), (.str (.ofString "bares"))), ((.ofString "bares"), (.str (.ofString "covers")))])], [(0, "InvalidBook"), (1, "InvalidClaim"), (2, "InvalidMixture"), (3, "InvalidHues"), (4, "InvalidScript"), (5, "InvalidNumber"), (6, "InvalidTruth"), (7, "InvalidWanted"), (8, "InvalidTrials"), (9, "InvalidPlan"), (10, "InvalidPot"), (11, "NoPaints"), (12, "Unlike"), (13, "Quarrel"), (14, "NothingToUndo")], ["law"], (some et)⟩
theorem o_is_whole : txt.entB e_is_whole = true := by decide +kernel
theorem o_is_rising : txt.entB e_is_rising = true := by decide +kernel
theorem o_is_mixture : txt.entB e_is_mixture = true := by decide +kernel
theorem o_is_fact : txt.entB e_is_fact = true := by decide +kernel
theorem o_has_book : txt.entB e_has_book = true := by decide +kernel
theorem o_need_book : txt.entB e_need_book = true := by decide +kernel
theorem o_need_claim : txt.entB e_need_claim = true := by decide +kernel
theorem o_all_kinds : txt.entB e_all_kinds = true := by decide +kernel
theorem o_meets : txt.entB e_meets = true := by decide +kernel
theorem o_is_parting : txt.entB e_is_parting = true := by decide +kernel
theorem o_contrary : txt.entB e_contrary = true := by decide +kernel
theorem o_chosen : txt.entB e_chosen = true := by decide +kernel
theorem o_can_be : txt.entB e_can_be = true := by decide +kernel
theorem o_found_hues : txt.entB e_found_hues = true := by decide +kernel
theorem o_known : txt.entB e_known = true := by decide +kernel
theorem o_sure : txt.entB e_sure = true := by decide +kernel
theorem o_breaking : txt.entB e_breaking = true := by decide +kernel
theorem o_law_vat : txt.entB e_law_vat = true := by decide +kernel
theorem o_law_under : txt.entB e_law_under = true := by decide +kernel
theorem o_law_some : txt.entB e_law_some = true := by decide +kernel
theorem o_law_is_whole : txt.entB e_law_is_whole = true := by decide +kernel
theorem o_law_truly : txt.entB e_law_truly = true := by decide +kernel
theorem o_law_is_rising : txt.entB e_law_is_rising = true := by decide +kernel
theorem o_law_are_hues : txt.entB e_law_are_hues = true := by decide +kernel
theorem o_law_shown : txt.entB e_law_shown = true := by decide +kernel
theorem o_law_so : txt.entB e_law_so = true := by decide +kernel
theorem o_law_kept : txt.entB e_law_kept = true := by decide +kernel
theorem o_law_joined : txt.entB e_law_joined = true := by decide +kernel
theorem o_law_has : txt.entB e_law_has = true := by decide +kernel
theorem o_law_closed : txt.entB e_law_closed = true := by decide +kernel
theorem o_law_can : txt.entB e_law_can = true := by decide +kernel
theorem o_law_contrary : txt.entB e_law_contrary = true := by decide +kernel
theorem o_law_sure : txt.entB e_law_sure = true := by decide +kernel
theorem o_law_mixture : txt.entB e_law_mixture = true := by decide +kernel
theorem o_law_fact : txt.entB e_law_fact = true := by decide +kernel
theorem o_law_book : txt.entB e_law_book = true := by decide +kernel
theorem o_law_hues : txt.entB e_law_hues = true := by decide +kernel
theorem o_law_judged_2 : txt.entB e_law_judged_2 = true := by decide +kernel
theorem o_law_k04 : txt.entB e_law_k04 = true := by decide +kernel
theorem al {α : Type} {p : α → Prop} {a : α} {r : List α} (h : p a) (hr : ∀ e ∈ r, p e) : ∀ e ∈ a :: r, p e := fun e he => (List.mem_cons.mp he).elim (fun z => z ▸ h) (hr e)
theorem txt_ok : TxtOk txt := ⟨(al o_is_whole (al o_is_rising (al o_is_mixture (al o_is_fact (al o_has_book (al o_need_book (al o_need_claim (al o_all_kinds (al o_meets (al o_is_parting (al o_contrary (al o_chosen (al o_can_be (al o_found_hues (al o_known (al o_sure (al o_breaking (al o_law_vat (al o_law_under (al o_law_some (al o_law_is_whole (al o_law_truly (al o_law_is_rising (al o_law_are_hues (al o_law_shown (al o_law_so (al o_law_kept (al o_law_joined (al o_law_has (al o_law_closed (al o_law_can (al o_law_contrary (al o_law_sure (al o_law_mixture (al o_law_fact (al o_law_book (al o_law_hues (al o_law_judged_2 (al o_law_k04 (fun _ h => by cases h)))))))))))))))))))))))))))))))))))))))), (al b_is_whole (al b_is_rising (al b_is_mixture (al b_is_fact (al b_has_book (al b_need_book (al b_need_claim (al b_all_kinds (al b_meets (al b_is_parting (al b_contrary (al b_chosen (al b_can_be (al b_found_hues (al b_known (al b_sure (al b_breaking (al b_law_vat (al b_law_under (al b_law_some (al b_law_is_whole (al b_law_truly (al b_law_is_rising (al b_law_are_hues (al b_law_shown (al b_law_so (al b_law_kept (al b_law_joined (al b_law_has (al b_law_closed (al b_law_can (al b_law_contrary (al b_law_sure (al b_law_mixture (al b_law_fact (al b_law_book (al b_law_hues (al b_law_judged_2 (al b_law_k04 (fun _ h => by cases h)))))))))))))))))))))))))))))))))))))))), fun e h => by cases h; exact ⟨et_ok, et_b1, et_b2⟩⟩
def loose : List Str := (["PaintError", "InvalidBook", "InvalidClaim", "InvalidMixture", "InvalidHues", "InvalidScript", "InvalidNumber", "InvalidTruth", "InvalidWanted", "InvalidTrials", "InvalidPlan", "InvalidPot", "NoPaints", "Unlike", "Quarrel", "NothingToUndo"] : List Str) ++ (["TooMany", "InvalidText", "WORDS", "MOST_FACTS", "is_whole", "is_rising", "is_mixture", "is_fact", "has_book", "need_book", "need_claim", "CONTRARY", "all_kinds", "meets", "is_parting", "contrary"] : List Str) ++ (["chosen", "can_be", "found_hues", "known", "sure", "breaking", "_law_vat", "_law_under", "_law_some", "_law_is_whole", "_law_truly", "_law_is_rising", "_law_are_hues", "_law_shown", "_law_so", "_law_kept"] : List Str) ++ (["_law_joined", "_law_has", "_law_closed", "_law_can", "_law_contrary", "_law_sure", "_law_mixture", "_law_fact", "_law_book", "_law_hues", "_law_names", "_law_error", "_law_judged"] : List Str)
def law_i : Nat := 66
@[irreducible] def tab (n : Nat) : Option Fn := txt.tab n
@[irreducible] def glob : Glob := txt.glob
theorem tab_eq : tab = txt.tab := by funext n; unfold tab; rfl
theorem glob_eq : glob = txt.glob := by unfold glob; rfl
theorem t_is_whole : tab 0 = some f_is_whole := by unfold tab; rfl
theorem t_is_rising : tab 1 = some f_is_rising := by unfold tab; rfl
theorem t_is_mixture : tab 2 = some f_is_mixture := by unfold tab; rfl
theorem t_is_fact : tab 3 = some f_is_fact := by unfold tab; rfl
theorem t_has_book : tab 4 = some f_has_book := by unfold tab; rfl
theorem t_need_book : tab 6 = some f_need_book := by unfold tab; rfl
theorem t_need_claim : tab 34 = some f_need_claim := by unfold tab; rfl
theorem t_all_kinds : tab 47 = some f_all_kinds := by unfold tab; rfl
theorem t_meets : tab 48 = some f_meets := by unfold tab; rfl
theorem t_is_parting : tab 49 = some f_is_parting := by unfold tab; rfl
theorem t_contrary : tab 54 = some f_contrary := by unfold tab; rfl
theorem t_chosen : tab 50 = some f_chosen := by unfold tab; rfl
theorem t_can_be : tab 55 = some f_can_be := by unfold tab; rfl
theorem t_found_hues : tab 51 = some f_found_hues := by unfold tab; rfl
theorem t_known : tab 56 = some f_known := by unfold tab; rfl
theorem t_sure : tab 57 = some f_sure := by unfold tab; rfl
theorem t_breaking : tab 58 = some f_breaking := by unfold tab; rfl
theorem t_law_vat : tab 10 = some f_law_vat := by unfold tab; rfl
theorem t_law_under : tab 11 = some f_law_under := by unfold tab; rfl
theorem t_law_some : tab 12 = some f_law_some := by unfold tab; rfl
theorem t_law_is_whole : tab 13 = some f_law_is_whole := by unfold tab; rfl
theorem t_law_truly : tab 14 = some f_law_truly := by unfold tab; rfl
theorem t_law_is_rising : tab 15 = some f_law_is_rising := by unfold tab; rfl
theorem t_law_are_hues : tab 19 = some f_law_are_hues := by unfold tab; rfl
theorem t_law_shown : tab 43 = some f_law_shown := by unfold tab; rfl
theorem t_law_so : tab 44 = some f_law_so := by unfold tab; rfl
theorem t_law_kept : tab 45 = some f_law_kept := by unfold tab; rfl
theorem t_law_joined : tab 20 = some f_law_joined := by unfold tab; rfl
theorem t_law_has : tab 21 = some f_law_has := by unfold tab; rfl
theorem t_law_closed : tab 22 = some f_law_closed := by unfold tab; rfl
theorem t_law_can : tab 23 = some f_law_can := by unfold tab; rfl
theorem t_law_contrary : tab 59 = some f_law_contrary := by unfold tab; rfl
theorem t_law_sure : tab 60 = some f_law_sure := by unfold tab; rfl
theorem t_law_mixture : tab 24 = some f_law_mixture := by unfold tab; rfl
theorem t_law_fact : tab 25 = some f_law_fact := by unfold tab; rfl
theorem t_law_book : tab 26 = some f_law_book := by unfold tab; rfl
theorem t_law_hues : tab 27 = some f_law_hues := by unfold tab; rfl
theorem t_law_judged_2 : tab 61 = some f_law_judged_2 := by unfold tab; rfl
theorem t_law_k04 : tab 62 = some f_law_k04 := by unfold tab; rfl
theorem g_WORDS : glob.gc 0 = some (.tuple [(.str (.ofString "same")), (.str (.ofString "covers")), (.str (.ofString "unlike"))]) := by unfold glob; rfl
theorem g_MOST_FACTS : glob.gc 1 = some (.int (6)) := by unfold glob; rfl
theorem k_CONTRARY : glob.gk 0 = some [((.ofString "same"), (.str (.ofString "unlike"))), ((.ofString "unlike"), (.str (.ofString "same"))), ((.ofString "covers"), (.str (.ofString "bares"))), ((.ofString "bares"), (.str (.ofString "covers")))] := by unfold glob; rfl
theorem r_InvalidBook : glob.er 0 = some (.ofString "book value") := by unfold glob; rfl
theorem r_InvalidClaim : glob.er 1 = some (.ofString "claim value") := by unfold glob; rfl
end Tn

namespace Tn
open PySem PySem.Spec PyProof.Rows L2
abbrev RR : PySem.W.OpenRow := PySem.W.OpenLaw.row PySem.Challenge.rw_anypaint_k04_whole_claims_that_surely_ar
def ob (s : PySem.W.SharedT) : He.AlX := obsY asY txt.fas txt.defs txt.tabs txt.tf txt.exB (HandSHeadRun.getT s)
theorem ob_eq (s : PySem.W.SharedT) : ob s = txt.hookY.obs s.abs := obsY_eq (HandSHeadRun.getT_eq s)
theorem run0 (w : World) : HandSHeadRun.RunEq RR (PySem.W.view RR.prog [law_i]) txt.hookY ob 20000 loose (w.withFollow "special-get-raises" false) := by
  intro os
  kernel_rfl
theorem run1 (w : World) : HandSHeadRun.RunEq RR (PySem.W.view RR.prog [law_i]) txt.hookY ob 20000 loose (w.withFollow "special-get-raises" true) := by
  intro os
  kernel_rfl
theorem run (w : World) : HandSHeadRun.RunEq RR (PySem.W.view RR.prog [law_i]) txt.hookY ob 20000 loose w := PySem.W.byRow2 "special-get-raises" (P := fun w => HandSHeadRun.RunEq RR (PySem.W.view RR.prog [law_i]) txt.hookY ob 20000 loose w) run0 run1 w
end Tn

namespace Tn
open PySem PySem.Spec PyProof.Rows L2
open PySem.W PySem.Calls
/-- the law from the run and the equation -/
theorem holds_of (run : ∀ w, HandSHeadRun.RunEq RR (view RR.prog [law_i]) txt.hookY ob 20000 loose w)
    (j n : Nat) (hr : L2.Room (7 * j) PySem.callerA) (hn : (PySem.Challenge.rw_anypaint_k04_whole_claims_that_surely_ar).most = some n) (hn2 : n ≤ sizeLine)
    (hlaw : ∀ ns : List Int, ns.length ≤ n → ∃ m, callN txt.glob txt.tab j 62 [.s ns] [] = .ok (.d (.bool true)) m) :
    PySem.Challenge.rw_anypaint_k04_whole_claims_that_surely_ar.Holds := by
  w_on; o_law
  refine HandSHeadRun.head_any (r := OpenLaw.row PySem.Challenge.rw_anypaint_k04_whole_claims_that_surely_ar) (q := view RR.prog [law_i]) (H := txt.hookY) (ob := ob) (M := 20000) (loose := loose) (d := HandSHeadRun.topDef RR.prog 66) (kwd := []) ob_eq
    (by kernel_rfl) (fun s => by kernel_rfl) run (by kernel_rfl) (by kernel_rfl) (by kernel_rfl) (by rfl) (by first | assumption | decide +kernel) (by decide +kernel) ⟨rfl, rfl, rfl, rfl, rfl, by decide +kernel⟩ ?hw ?hc
  case hw => w_witness2
  case hc => exact txt_walk (N := 4) (el := e_law_k04) (x := "script") txt_ok hn hn2 (by kernel_rfl) hr (by kernel_rfl) (by kernel_rfl) (by kernel_rfl) hlaw
end Tn

set_option maxRecDepth 100000
/-! Sp0: the interpreter as rewriting rules. -/
namespace Tn
open PySem
/-- the call function of the table -/
def C (N : Nat) : Nat → List SV → Mem → R SV := callN glob tab N
theorem C_unf {f : Nat} {fn : Fn} {N : Nat} {args : List SV} {m : Mem} (h : tab f = some fn) (hN : 1 ≤ N) : C N f args m = runF glob (C (N - 1)) fn args m := by
  obtain ⟨n, rfl⟩ : ∃ n, N = n + 1 := ⟨N - 1, by omega⟩
  show callN glob tab (n + 1) f args m = _
  unfold callN
  rw [h]; rfl
def fin (n : Nat) : O → R SV
  | .nx _ m' => .ok (.d .none) (m'.take n)
  | .rt v m' => .ok v (m'.take n)
  | .ex k p m' => .ex k p (m'.take n)
  | .no => .no
section
variable {G : Glob} {c : Nat → List SV → Mem → R SV} {env : EnvT} {m : Mem}
theorem runF_mk {ar sl : Nat} {b : Ss} {args : List SV} : runF G c ⟨ar, sl, b⟩ args m = if args.length = ar ∧ ar ≤ sl then fin m.length (exB G c b (initE sl args) m) else .no := by
  unfold runF fin
  split <;> rfl
theorem initE_eq {n : Nat} {args : List SV} : initE n args = args.map some ++ List.replicate (n - args.length) none := Eq.trans rfl rfl
/-! ends -/
theorem fin_nx {e : EnvT} {n : Nat} : fin n (.nx e m) = .ok (.d .none) (m.take n) := Eq.trans rfl rfl
theorem fin_rt {v : SV} {n : Nat} : fin n (.rt v m) = .ok v (m.take n) := Eq.trans rfl rfl
theorem fin_ex {k : Nat} {p : Option Int} {n : Nat} : fin n (.ex k p m) = .ex k p (m.take n) := Eq.trans rfl rfl
theorem fin_ite {p : Prop} [Decidable p] {a b : O} {n : Nat} : fin n (if p then a else b) = if p then fin n a else fin n b := by split <;> rfl
/-! R, O -/
theorem bind_ok {α β : Type} {a : α} {k : α → Mem → R β} : (R.ok a m).bind k = k a m := Eq.trans rfl rfl
theorem bind_ex {α β : Type} {x : Nat} {p : Option Int} {k : α → Mem → R β} : (R.ex x p m : R α).bind k = .ex x p m := Eq.trans rfl rfl
theorem bind_no {α β : Type} {k : α → Mem → R β} : (R.no : R α).bind k = .no := Eq.trans rfl rfl
theorem bind_ite {α β : Type} {p : Prop} [Decidable p] {a b : R α} {k : α → Mem → R β} : (if p then a else b).bind k = if p then a.bind k else b.bind k := by split <;> rfl
theorem of_ok {α : Type} {a : α} {k : α → Mem → O} : O.of (R.ok a m) k = k a m := Eq.trans rfl rfl
theorem of_ex {α : Type} {x : Nat} {p : Option Int} {k : α → Mem → O} : O.of (R.ex x p m : R α) k = .ex x p m := Eq.trans rfl rfl
theorem of_no {α : Type} {k : α → Mem → O} : O.of (R.no : R α) k = .no := Eq.trans rfl rfl
theorem of_ite {α : Type} {p : Prop} [Decidable p] {a b : R α} {k : α → Mem → O} : O.of (if p then a else b) k = if p then O.of a k else O.of b k := by split <;> rfl
theorem seq_nx {e : EnvT} {k : EnvT → Mem → O} : O.seq (.nx e m) k = k e m := Eq.trans rfl rfl
theorem seq_rt {v : SV} {k : EnvT → Mem → O} : O.seq (.rt v m) k = .rt v m := Eq.trans rfl rfl
theorem seq_ex {x : Nat} {p : Option Int} {k : EnvT → Mem → O} : O.seq (.ex x p m) k = .ex x p m := Eq.trans rfl rfl
theorem seq_no {k : EnvT → Mem → O} : O.seq .no k = .no := Eq.trans rfl rfl
theorem seq_ite {p : Prop} [Decidable p] {a b : O} {k : EnvT → Mem → O} : O.seq (if p then a else b) k = if p then O.seq a k else O.seq b k := by split <;> rfl
theorem bd_d {x : D} {k : D → Mem → R SV} : bd (.ok (.d x) m) k = k x m := Eq.trans rfl rfl
theorem bd_own {x : Ds} {k : D → Mem → R SV} : bd (.ok (.own x) m) k = k (.list x) m := Eq.trans rfl rfl
theorem bd_p {x : Ds} {k : D → Mem → R SV} : bd (.ok (.p x) m) k = k (.list x) m := Eq.trans rfl rfl
theorem bd_ex {x : Nat} {p : Option Int} {k : D → Mem → R SV} : bd (.ex x p m) k = .ex x p m := Eq.trans rfl rfl
theorem bd_ite {p : Prop} [Decidable p] {a b : R SV} {k : D → Mem → R SV} : bd (if p then a else b) k = if p then bd a k else bd b k := by split <;> rfl
theorem lift_some {v : SV} : lift (some v) m = .ok v m := Eq.trans rfl rfl
theorem lift_none : lift none m = .no := Eq.trans rfl rfl
theorem lift_ite {p : Prop} [Decidable p] {a b : Option SV} : lift (if p then a else b) m = if p then lift a m else lift b m := by split <;> rfl
theorem map_some {α β : Type} {a : α} {f : α → β} : Option.map f (some a) = some (f a) := Eq.trans rfl rfl
theorem map_none {α β : Type} {f : α → β} : Option.map f (none : Option α) = none := Eq.trans rfl rfl
theorem opd_d {x : D} : opd (.d x) = some x := Eq.trans rfl rfl
theorem opd_own {x : Ds} : opd (.own x) = some (.list x) := Eq.trans rfl rfl
theorem opd_p {x : Ds} : opd (.p x) = some (.list x) := Eq.trans rfl rfl
theorem toD_d {x : D} : toD (.d x) = some x := Eq.trans rfl rfl
theorem toD_own {x : Ds} : toD (.own x) = some (.list x) := Eq.trans rfl rfl
theorem md_nil : List.mapM toD ([] : List SV) = some [] := Eq.trans rfl rfl
theorem md_d {x : D} {vs : List SV} : List.mapM toD (.d x :: vs) = (List.mapM toD vs).map (x :: ·) := by
  rw [List.mapM_cons]; show (List.mapM toD vs >>= fun a => some (x :: a)) = _
  cases List.mapM toD vs <;> rfl
theorem md_own {x : Ds} {vs : List SV} : List.mapM toD (.own x :: vs) = (List.mapM toD vs).map (.list x :: ·) := by
  rw [List.mapM_cons]; show (List.mapM toD vs >>= fun a => some (.list x :: a)) = _
  cases List.mapM toD vs <;> rfl
theorem ma_nil : List.mapM toA ([] : List SV) = some [] := Eq.trans rfl rfl
theorem ma_cons {v w : SV} {vs : List SV} (h : toA v = some w) : List.mapM toA (v :: vs) = (List.mapM toA vs).map (w :: ·) := by
  rw [List.mapM_cons, h]; show (List.mapM toA vs >>= fun a => some (w :: a)) = _
  cases List.mapM toA vs <;> rfl
theorem ma_d {x : D} {vs : List SV} : List.mapM toA (.d x :: vs) = (List.mapM toA vs).map (.d x :: ·) := ma_cons rfl
theorem ma_own {x : Ds} {vs : List SV} : List.mapM toA (.own x :: vs) = (List.mapM toA vs).map (.d (.list x) :: ·) := ma_cons rfl
theorem ma_h {k : Nat} {vs : List SV} : List.mapM toA (.h k :: vs) = (List.mapM toA vs).map (.h k :: ·) := ma_cons rfl
theorem ma_f {k : Nat} {vs : List SV} : List.mapM toA (.f k :: vs) = (List.mapM toA vs).map (.f k :: ·) := ma_cons rfl
theorem ma_s {k : List Int} {vs : List SV} : List.mapM toA (.s k :: vs) = (List.mapM toA vs).map (.s k :: ·) := ma_cons rfl
theorem mo_nil : List.mapM opd ([] : List SV) = some [] := Eq.trans rfl rfl
theorem mo_cons {v : SV} {w : D} {vs : List SV} (h : opd v = some w) : List.mapM opd (v :: vs) = (List.mapM opd vs).map (w :: ·) := by
  rw [List.mapM_cons, h]; show (List.mapM opd vs >>= fun a => some (w :: a)) = _
  cases List.mapM opd vs <;> rfl
theorem mo_d {x : D} {vs : List SV} : List.mapM opd (.d x :: vs) = (List.mapM opd vs).map (x :: ·) := mo_cons rfl
theorem mo_own {x : Ds} {vs : List SV} : List.mapM opd (.own x :: vs) = (List.mapM opd vs).map (.list x :: ·) := mo_cons rfl
theorem mo_p {x : Ds} {vs : List SV} : List.mapM opd (.p x :: vs) = (List.mapM opd vs).map (.list x :: ·) := mo_cons rfl
/-! expressions -/
def vIt : Option (Option SV) → Mem → R SV
  | some (some (.own ds)), m => .ok (.p ds) m
  | some (some v), m => .ok v m
  | _, _ => .no
theorem e_var {i : Nat} : evE G c (.var i) env m = vIt env[i]? m := by
  rw [evE]; rcases env[i]? with _ | _ | v <;> first | rfl | (cases v <;> rfl)
theorem v_own {ds : Ds} : vIt (some (some (.own ds))) m = .ok (.p ds) m := Eq.trans rfl rfl
theorem v_d {x : D} : vIt (some (some (.d x))) m = .ok (.d x) m := Eq.trans rfl rfl
theorem v_h {x : Nat} : vIt (some (some (.h x))) m = .ok (.h x) m := Eq.trans rfl rfl
theorem v_f {x : Nat} : vIt (some (some (.f x))) m = .ok (.f x) m := Eq.trans rfl rfl
theorem v_s {x : List Int} : vIt (some (some (.s x))) m = .ok (.s x) m := Eq.trans rfl rfl
theorem e_cst {x : D} : evE G c (.cst x) env m = .ok (.d x) m := by rw [evE]
def gloK : Option D → Mem → R SV
  | some x, m => .ok (.d x) m
  | none, _ => .no
theorem gloK_s {x : D} : gloK (some x) m = .ok (.d x) m := Eq.trans rfl rfl
theorem e_glo {g : Nat} : evE G c (.glo g) env m = gloK (G.gc g) m := by rw [evE]; cases G.gc g <;> rfl
theorem e_fnr {n : Nat} : evE G c (.fnr n) env m = .ok (.f n) m := by rw [evE]
theorem e_pow {a b : Nat} : evE G c (.pow a b) env m = .ok (.d (.int ((a ^ b : Nat) : Int))) m := by rw [evE]
theorem e_bin {o : Bo} {a b : E} : evE G c (.bin o a b) env m = bd (evE G c a env m) fun x m => bd (evE G c b env m) fun y m => lift (binD o x y) m := by rw [evE]
def negI : D → Option SV
  | .int i => some (.d (.int (-i)))
  | _ => none
theorem e_neg {a : E} : evE G c (.neg a) env m = bd (evE G c a env m) fun x m => lift (negI x) m := by
  rw [evE]; congr; funext x m; cases x <;> rfl
theorem e_cmp {o : Co} {a b : E} : evE G c (.cmp o a b) env m = bd (evE G c a env m) fun x m => bd (evE G c b env m) fun y m => lift ((cmpD o x y).map dbl) m := by rw [evE]
def chK : Option Bool → R SV → Mem → R SV
  | some true, r, _ => r
  | some false, _, m => .ok (dbl false) m
  | none, _, _ => .no
theorem chK_b {b : Bool} {r : R SV} : chK (some b) r m = if b = true then r else .ok (dbl false) m := by cases b <;> rfl
theorem e_chn {a b e : E} {o o2 : Co} : evE G c (.chn a o b o2 e) env m = bd (evE G c a env m) fun x m => bd (evE G c b env m) fun y m => chK (cmpD o x y) (bd (evE G c e env m) fun z m => lift ((cmpD o2 y z).map dbl) m) m := by
  rw [evE]; congr; funext x m; congr; funext y m; unfold chK; rcases cmpD o x y with _ | _ | _ <;> rfl
theorem e_isn {ng : Bool} {a : E} : evE G c (.isn ng a) env m = (evE G c a env m).bind fun v m => .ok (dbl (isNn v != ng)) m := by rw [evE]
theorem e_isb {a : E} {b : Bool} : evE G c (.isb a b) env m = bd (evE G c a env m) fun x m => .ok (dbl (isBk b x)) m := by rw [evE]
theorem e_ands {es : Es} : evE G c (.ands es) env m = evA G c es env m := by rw [evE]
theorem e_ors {es : Es} : evE G c (.ors es) env m = evO G c es env m := by rw [evE]
def bK : D → R SV → R SV → R SV
  | .bool true, a, _ => a
  | .bool false, _, b => b
  | _, _, _ => .no
theorem bK_b {b : Bool} {x y : R SV} : bK (.bool b) x y = if b = true then x else y := by cases b <;> rfl
theorem e_not {a : E} : evE G c (.not a) env m = bd (evE G c a env m) fun x m => bK x (.ok (dbl false) m) (.ok (dbl true) m) := by
  rw [evE]; congr; funext x m; unfold bK; cases x <;> first | rfl | (rename_i b; cases b <;> rfl)
def noP : R SV → R SV
  | .ok (.p _) _ => .no
  | r => r
theorem noP_d {x : D} : noP (.ok (.d x) m) = .ok (.d x) m := Eq.trans rfl rfl
theorem noP_own {x : Ds} : noP (.ok (.own x) m) = .ok (.own x) m := Eq.trans rfl rfl
theorem noP_ex {k : Nat} {p : Option Int} : noP (.ex k p m) = .ex k p m := Eq.trans rfl rfl
theorem noP_ite {p : Prop} [Decidable p] {a b : R SV} : noP (if p then a else b) = if p then noP a else noP b := by split <;> rfl
theorem e_ite {t a b : E} : evE G c (.ite t a b) env m = bd (evE G c t env m) fun x m => bK x (noP (evE G c a env m)) (noP (evE G c b env m)) := by
  rw [evE]; congr; funext x m; unfold bK
  cases x with
  | bool k => cases k <;> (dsimp only; first | (cases evE G c a env m <;> (try rename_i v _; cases v) <;> rfl) | (cases evE G c b env m <;> (try rename_i v _; cases v) <;> rfl))
  | _ => rfl
def tupK : Option Ds → Mem → R SV
  | some ds, m => if ds.length ≤ 1000 then .ok (.d (.tuple ds)) m else .no
  | none, _ => .no
def lstK : Option Ds → Mem → R SV
  | some ds, m => if ds.length ≤ 1000 then .ok (.own ds) m else .no
  | none, _ => .no
theorem tupK_s {ds : Ds} : tupK (some ds) m = if ds.length ≤ 1000 then .ok (.d (.tuple ds)) m else .no := Eq.trans rfl rfl
theorem lstK_s {ds : Ds} : lstK (some ds) m = if ds.length ≤ 1000 then .ok (.own ds) m else .no := Eq.trans rfl rfl
theorem e_tup {es : Es} : evE G c (.tup es) env m = (evs G c es env m).bind fun vs m => tupK (vs.mapM toD) m := by rw [evE]; congr; funext vs m; cases List.mapM toD vs <;> rfl
theorem e_lst {es : Es} : evE G c (.lst es) env m = (evs G c es env m).bind fun vs m => lstK (vs.mapM toD) m := by rw [evE]; congr; funext vs m; cases List.mapM toD vs <;> rfl
def memK : Option MO → Int → Mem → R SV
  | some (.nums ns), i, m => lift ((at_ ns i).map fun j => .d (.int j)) m
  | none, _, _ => .no
def ixK (v : SV) (y : D) (m : Mem) : R SV := match v, y with
    | .h k, .int i => match m[k]? with
      | some (.nums ns) => lift ((at_ ns i).map fun j => .d (.int j)) m
      | none => .no
    | .s ns, .int i => lift ((at_ ns i).map fun j => .d (.int j)) m
    | _, _ => match opd v with
      | some x => lift ((idxD x y).map .d) m
      | none => .no
theorem e_idx {a b : E} : evE G c (.idx a b) env m = (evE G c a env m).bind fun v m => bd (evE G c b env m) fun y m => ixK v y m := by rw [evE]; rfl
theorem ixK_d {x y : D} : ixK (.d x) y m = lift ((idxD x y).map .d) m := by cases y <;> rfl
theorem ixK_own {x : Ds} {y : D} : ixK (.own x) y m = lift ((idxD (.list x) y).map .d) m := by cases y <;> rfl
theorem ixK_p {x : Ds} {y : D} : ixK (.p x) y m = lift ((idxD (.list x) y).map .d) m := by cases y <;> rfl
theorem ixK_h {k : Nat} {i : Int} : ixK (.h k) (.int i) m = memK m[k]? i m := by
  show (match m[k]? with
      | some (.nums ns) => lift ((at_ ns i).map fun j => SV.d (.int j)) m
      | none => .no) = _
  rcases m[k]? with _ | ⟨_⟩ <;> rfl
theorem memK_s {ns : List Int} {i : Int} : memK (some (.nums ns)) i m = lift ((at_ ns i).map fun j => .d (.int j)) m := Eq.trans rfl rfl
theorem ixK_s {ns : List Int} {i : Int} : ixK (.s ns) (.int i) m = lift ((at_ ns i).map fun j => .d (.int j)) m := Eq.trans rfl rfl
theorem e_slo {a b : E} : evE G c (.slo a b) env m = bd (evE G c a env m) fun x m => bd (evE G c b env m) fun y m => lift (loD x y) m := by rw [evE]
theorem e_shi {a b : E} : evE G c (.shi a b) env m = bd (evE G c a env m) fun x m => bd (evE G c b env m) fun y m => lift (hiD x y) m := by rw [evE]
theorem e_rev {a : E} : evE G c (.rev a) env m = bd (evE G c a env m) fun x m => lift (revD x) m := by rw [evE]
def clK (c : Nat → List SV → Mem → R SV) (n : Nat) : Option (List SV) → Mem → R SV
  | some args, m => c n args m
  | none, _ => .no
theorem clK_s {n : Nat} {args : List SV} : clK c n (some args) m = c n args m := Eq.trans rfl rfl
theorem e_call {n : Nat} {es : Es} : evE G c (.call n es) env m = (evs G c es env m).bind fun vs m => clK c n (vs.mapM toA) m := by rw [evE]; congr; funext vs m; cases List.mapM toA vs <;> rfl
def cvK (c : Nat → List SV → Mem → R SV) (r : R (List SV)) : Option (Option SV) → R SV
  | some (some (.f n)) => r.bind fun vs m => clK c n (vs.mapM toA) m
  | _ => .no
theorem cvK_f {r : R (List SV)} {n : Nat} : cvK c r (some (some (.f n))) = r.bind fun vs m => clK c n (vs.mapM toA) m := Eq.trans rfl rfl
theorem e_cav {i : Nat} {es : Es} : evE G c (.cav i es) env m = cvK c (evs G c es env m) env[i]? := by
  rw [evE]; unfold cvK
  rcases env[i]? with _ | _ | v <;> first | rfl | (cases v <;> first | rfl | (dsimp only; congr; funext vs m; cases List.mapM toA vs <;> rfl))
def blK (b : Bi) (vs : List SV) (m : Mem) : R SV := match vs.mapM opd with
  | some xs => lift (bltD b xs) m
  | none => .no
def blO (b : Bi) : Option Ds → Mem → R SV
  | some xs, m => lift (bltD b xs) m
  | none, _ => .no
theorem blK_eq {b : Bi} {vs : List SV} : blK b vs m = blO b (vs.mapM opd) m := by unfold blK blO; cases List.mapM opd vs <;> rfl
theorem blO_s {b : Bi} {xs : Ds} : blO b (some xs) m = lift (bltD b xs) m := Eq.trans rfl rfl
def bl2 (b : Bi) (vs : List SV) (m : Mem) : R SV := match b, vs with
    | .len, [.s ns] => .ok (.d (.int ns.length)) m
    | _, _ => blK b vs m
theorem e_blt {b : Bi} {es : Es} : evE G c (.blt b es) env m = (evs G c es env m).bind fun vs m => bl2 b vs m := by rw [evE]; rfl
theorem bl2_s {ns : List Int} : bl2 .len [.s ns] m = .ok (.d (.int ns.length)) m := Eq.trans rfl rfl
theorem bl2_d {b : Bi} {x : D} {r : List SV} : bl2 b (.d x :: r) m = blO b (List.mapM opd (.d x :: r)) m := by rw [← blK_eq]; unfold bl2; split <;> first | rfl | (rename_i h; cases h)
theorem bl2_own {b : Bi} {x : Ds} {r : List SV} : bl2 b (.own x :: r) m = blO b (List.mapM opd (.own x :: r)) m := by rw [← blK_eq]; unfold bl2; split <;> first | rfl | (rename_i h; cases h)
theorem bl2_p {b : Bi} {x : Ds} {r : List SV} : bl2 b (.p x :: r) m = blO b (List.mapM opd (.p x :: r)) m := by rw [← blK_eq]; unfold bl2; split <;> first | rfl | (rename_i h; cases h)
theorem e_isi {a : E} {t : Ty} : evE G c (.isi a t) env m = bd (evE G c a env m) fun x m => .ok (dbl (isiD x t)) m := by rw [evE]
def kdL (t : List (Str × D)) : D → Option SV
  | .str z => (t.lookup z).map .d
  | _ => none
theorem kdL_s {t : List (Str × D)} {z : Str} : kdL t (.str z) = (t.lookup z).map .d := Eq.trans rfl rfl
def kdK (r : R SV) : Option (List (Str × D)) → R SV
  | some t => bd r fun x m => lift (kdL t x) m
  | none => .no
theorem kdK_s {r : R SV} {t : List (Str × D)} : kdK r (some t) = bd r fun x m => lift (kdL t x) m := Eq.trans rfl rfl
theorem e_kdc {g : Nat} {a : E} : evE G c (.kdc g a) env m = kdK (evE G c a env m) (G.gk g) := by
  rw [evE]; cases G.gk g with
  | none => rfl
  | some t => dsimp only; unfold kdK; dsimp only; congr; funext x m; cases x <;> rfl
theorem e_sse {a : E} : evE G c (.sse a) env m = bd (evE G c a env m) fun x m => lift ((ssetD x).map .own) m := by rw [evE]
def rgD : D → Option Ds
  | .int n => if n ≤ 1000 ∧ 0 ≤ n then some (dI ((List.range n.toNat).map fun i => ((i : Nat) : Int))) else none
  | _ => none
theorem e_lrg {a : E} : evE G c (.lrg a) env m = bd (evE G c a env m) fun x m => lift ((rgD x).map .own) m := by
  rw [evE]; congr; funext x m; cases x <;> first | rfl | (unfold rgD; dsimp only; split <;> rfl)
theorem e_trg {a : E} : evE G c (.trg a) env m = bd (evE G c a env m) fun x m => lift ((rgD x).map fun ds => .d (.tuple ds)) m := by
  rw [evE]; congr; funext x m; cases x <;> first | rfl | (unfold rgD; dsimp only; split <;> rfl)
def cmK : R Ds → R SV
  | .ok acc m => .ok (.own acc) m
  | _ => .no
theorem cmK_ok {acc : Ds} : cmK (.ok acc m) = .ok (.own acc) m := Eq.trans rfl rfl
theorem e_cm1 {elt : E} {tg : Tg} {it : It} {own : List Nat} {tst : Es} : evE G c (.cm1 elt tg it own tst) env m = (evI G c true it env m).bind fun xs m => if xs.length ≤ LIM then cmK (cLoop tg (evT G c tst) (evE G c elt) (wipeE env own) xs [] m) else .no := by
  rw [evE]; congr
def cmK2 : R Ds → R SV
  | .ok acc m => if acc.length ≤ LIM then .ok (.own acc) m else .no
  | _ => .no
theorem cmK2_ok {acc : Ds} : cmK2 (.ok acc m) = if acc.length ≤ LIM then .ok (.own acc) m else .no := Eq.trans rfl rfl
theorem e_cm2 {elt : E} {tg tg2 : Tg} {it it2 : It} {own own2 : List Nat} {tst : Es} : evE G c (.cm2 elt tg it tg2 it2 own own2 tst) env m = (evI G c true it env m).bind fun xs m => cmK2 (cLoop2 tg own2 (evI G c (isDV it2) it2) tg2 (evT G c tst) (evE G c elt) (wipeE env own) xs [] m) := by
  rw [evE]; congr
def lerK (G : Glob) : R SV → R SV
  | .ok _ m => .ok (.d (.str ⟨#[]⟩)) m
  | .ex k none m => match G.er k with
    | some z => .ok (.d (.str z)) m
    | none => .no
  | _ => .no
theorem e_ler {b : E} : evE G c (.ler b) env m = lerK G (evE G c b env m) := by
  rw [evE]; rcases evE G c b env m with _ | ⟨k, p, m'⟩ | _ <;> rfl
theorem lerK_ok {v : SV} : lerK G (.ok v m) = .ok (.d (.str ⟨#[]⟩)) m := Eq.trans rfl rfl
def lerO (m : Mem) : Option Str → R SV
  | some z => .ok (.d (.str z)) m
  | none => .no
theorem lerO_s {z : Str} : lerO m (some z) = .ok (.d (.str z)) m := Eq.trans rfl rfl
theorem lerK_ex {k : Nat} : lerK G (.ex k none m) = lerO m (G.er k) := by
  show (match G.er k with | some z => _ | none => _) = _
  cases G.er k <;> exact Eq.trans rfl rfl
theorem lerK_ite {p : Prop} [Decidable p] {a b : R SV} : lerK G (if p then a else b) = if p then lerK G a else lerK G b := by split <;> rfl
def tnK : D → Mem → R SV
  | .bool k, m => .ok (dbl !k) m
  | .int i, m => .ok (dbl (i == 0)) m
  | _, _ => .no
theorem e_tnot {a : E} : evE G c (.tnot a) env m = bd (evE G c a env m) fun x m => tnK x m := by
  rw [evE]; congr; funext x m; cases x <;> rfl
theorem tnK_b {k : Bool} : tnK (.bool k) m = .ok (dbl !k) m := Eq.trans rfl rfl
theorem tnK_i {i : Int} : tnK (.int i) m = .ok (dbl (i == 0)) m := Eq.trans rfl rfl
theorem s_nil : evs G c .nil env m = .ok [] m := by rw [evs]
theorem s_cons {e : E} {es : Es} : evs G c (.cons e es) env m = (evE G c e env m).bind fun v m => (evs G c es env m).bind fun vs m => .ok (v :: vs) m := by rw [evs]
theorem a_one {e : E} : evA G c (.cons e .nil) env m = bd (evE G c e env m) fun x m => bK x (.ok (dbl true) m) (.ok (dbl false) m) := by
  rw [evA]; show bd _ _ = _; congr; funext x m; cases x <;> first | rfl | (rename_i b; cases b <;> rfl)
theorem a_cons {e f : E} {es : Es} : evA G c (.cons e (.cons f es)) env m = bd (evE G c e env m) fun x m => bK x (evA G c (.cons f es) env m) (.ok (dbl false) m) := by
  rw [evA]; show bd _ _ = _; congr; funext x m; cases x <;> first | rfl | (rename_i b; cases b <;> rfl)
theorem o_one {e : E} : evO G c (.cons e .nil) env m = bd (evE G c e env m) fun x m => bK x (.ok (dbl true) m) (.ok (dbl false) m) := by
  rw [evO]; show bd _ _ = _; congr; funext x m; cases x <;> first | rfl | (rename_i b; cases b <;> rfl)
theorem o_cons {e f : E} {es : Es} : evO G c (.cons e (.cons f es)) env m = bd (evE G c e env m) fun x m => bK x (.ok (dbl true) m) (evO G c (.cons f es) env m) := by
  rw [evO]; show bd _ _ = _; congr; funext x m; cases x <;> first | rfl | (rename_i b; cases b <;> rfl)
def tK : SV → R Bool → Mem → R Bool
  | .d (.bool true), r, _ => r
  | .d (.bool false), _, m => .ok false m
  | _, _, _ => .no
theorem tK_b {b : Bool} {r : R Bool} : tK (.d (.bool b)) r m = if b = true then r else .ok false m := by cases b <;> rfl
theorem t_nil : evT G c .nil env m = .ok true m := by rw [evT]
theorem t_cons {e : E} {es : Es} : evT G c (.cons e es) env m = (evE G c e env m).bind fun v m => tK v (evT G c es env m) m := by
  rw [evT]; congr; funext v m; cases v with
  | d x => cases x with
    | bool b => cases b <;> rfl
    | _ => rfl
  | _ => rfl
def datK (pk : Bool) : SV → Mem → R (List SV)
  | .d (.tuple ds), m => .ok (ds.map .d) m
  | .d (.list ds), m => .ok (ds.map .d) m
  | .own ds, m => .ok (ds.map .d) m
  | .p ds, m => if pk then .ok (ds.map .d) m else .no
  | _, _ => .no
theorem i_dat {pk : Bool} {e : E} : evI G c pk (.dat e) env m = (evE G c e env m).bind fun v m => datK pk v m := by
  rw [evI]; congr; funext v m; cases v with
  | d x => cases x <;> rfl
  | p ds => cases pk <;> rfl
  | _ => rfl
theorem datK_t {pk : Bool} {ds : Ds} : datK pk (.d (.tuple ds)) m = .ok (ds.map .d) m := Eq.trans rfl rfl
theorem datK_l {pk : Bool} {ds : Ds} : datK pk (.d (.list ds)) m = .ok (ds.map .d) m := Eq.trans rfl rfl
theorem datK_o {pk : Bool} {ds : Ds} : datK pk (.own ds) m = .ok (ds.map .d) m := Eq.trans rfl rfl
theorem datK_p {ds : Ds} : datK true (.p ds) m = .ok (ds.map .d) m := Eq.trans rfl rfl
def rngK : SV → Mem → R (List SV)
  | .d (.int n), m => if n ≤ 1000000 ∧ -1000000 ≤ n then .ok (rngD 0 n.toNat) m else .no
  | _, _ => .no
theorem rngK_i {n : Int} : rngK (.d (.int n)) m = if n ≤ 1000000 ∧ -1000000 ≤ n then .ok (rngD 0 n.toNat) m else .no := Eq.trans rfl rfl
theorem i_rng {pk : Bool} {e : E} : evI G c pk (.rng e) env m = (evE G c e env m).bind fun v m => rngK v m := by
  rw [evI]; congr; funext v m; cases v with
  | d x =>
    cases x with
    | int n =>
      rw [rngK_i]; dsimp only
      by_cases h1 : n ≤ 1000000 <;> by_cases h2 : -1000000 ≤ n <;> simp [h1, h2]
    | _ => rfl
  | _ => rfl
def enmK : SV → Mem → R (List SV)
  | .d (.tuple ds), m => .ok (enumD ds) m
  | .d (.list ds), m => .ok (enumD ds) m
  | .own ds, m => .ok (enumD ds) m
  | _, _ => .no
theorem enmK_t {ds : Ds} : enmK (.d (.tuple ds)) m = .ok (enumD ds) m := Eq.trans rfl rfl
theorem enmK_l {ds : Ds} : enmK (.d (.list ds)) m = .ok (enumD ds) m := Eq.trans rfl rfl
theorem enmK_o {ds : Ds} : enmK (.own ds) m = .ok (enumD ds) m := Eq.trans rfl rfl
def enm2 (pk : Bool) : SV → Mem → R (List SV)
  | .p ds, m => if pk then .ok (enumD ds) m else .no
  | v, m => enmK v m
theorem i_enm {pk : Bool} {e : E} : evI G c pk (.enm e) env m = (evE G c e env m).bind fun v m => enm2 pk v m := by
  rw [evI]; congr; funext v m; cases v with
  | d x => cases x <;> rfl
  | p ds => cases pk <;> rfl
  | _ => rfl
theorem enm2_t {pk : Bool} {ds : Ds} : enm2 pk (.d (.tuple ds)) m = .ok (enumD ds) m := Eq.trans rfl rfl
theorem enm2_l {pk : Bool} {ds : Ds} : enm2 pk (.d (.list ds)) m = .ok (enumD ds) m := Eq.trans rfl rfl
theorem enm2_o {pk : Bool} {ds : Ds} : enm2 pk (.own ds) m = .ok (enumD ds) m := Eq.trans rfl rfl
theorem enm2_p {ds : Ds} : enm2 true (.p ds) m = .ok (enumD ds) m := Eq.trans rfl rfl
def rng2K : SV → SV → Mem → R (List SV)
  | .d (.int i), .d (.int j), m => if -1000000 ≤ i ∧ j ≤ 1000000 ∧ i ≤ 1000000 ∧ -1000000 ≤ j then .ok (rngD i (j - i).toNat) m else .no
  | _, _, _ => .no
theorem rng2K_i {i j : Int} : rng2K (.d (.int i)) (.d (.int j)) m = if -1000000 ≤ i ∧ j ≤ 1000000 ∧ i ≤ 1000000 ∧ -1000000 ≤ j then .ok (rngD i (j - i).toNat) m else .no := Eq.trans rfl rfl
theorem i_rng2 {pk : Bool} {a b : E} : evI G c pk (.rng2 a b) env m = (evE G c a env m).bind fun v m => (evE G c b env m).bind fun w m => rng2K v w m := by
  rw [evI]; congr; funext v m; congr; funext w m
  cases v with
  | d x => cases x with
    | int i => cases w with
      | d y => cases y <;> rfl
      | _ => rfl
    | _ => rfl
  | _ => rfl
theorem i_fns {pk : Bool} {ns : List Nat} : evI G c pk (.fns ns) env m = .ok (ns.map .f) m := by rw [evI]
/-! targets -/
theorem bT_one {i : Nat} {x : D} : bindT (.one i) (.d x) env = if i < env.length then some (env.set i (some (.d x))) else none := Eq.trans rfl rfl
theorem bT_onef {i : Nat} {x : Nat} : bindT (.one i) (.f x) env = if i < env.length then some (env.set i (some (.f x))) else none := Eq.trans rfl rfl
theorem bT_tup {is : List Nat} {ds : Ds} : bindT (.tup is) (.d (.tuple ds)) env = if is.length = ds.length ∧ is.all (· < env.length) then some ((is.zip ds).foldl (fun e p => e.set p.1 (some (.d p.2))) env) else none := Eq.trans rfl rfl
/-! statements -/
def setK : Option EnvT → Mem → O
  | some e, m => .nx e m
  | none, _ => .no
theorem setK_s {e : EnvT} : setK (some e) m = .nx e m := Eq.trans rfl rfl
theorem x_asg {i : Nat} {e : E} : exS G c (.asg i e) env m = .of (evE G c e env m) fun v m => setS env i v m := by rw [exS]
theorem setS_d {i : Nat} {x : D} : setS env i (.d x) m = if i < env.length then .nx (env.set i (some (.d x))) m else .no := Eq.trans rfl rfl
theorem setS_o {i : Nat} {x : Ds} : setS env i (.own x) m = if i < env.length then .nx (env.set i (some (.own x))) m else .no := Eq.trans rfl rfl
theorem setS_f {i : Nat} {x : Nat} : setS env i (.f x) m = if i < env.length then .nx (env.set i (some (.f x))) m else .no := Eq.trans rfl rfl
theorem x_asgs {is : List Nat} {es : Es} : exS G c (.asgs is es) env m = .of (evs G c es env m) fun vs m => setK (setAll is vs env) m := by
  rw [exS]; congr; funext v m; cases setAll is v env <;> rfl
theorem sA_nil : setAll [] [] env = some env := Eq.trans rfl rfl
theorem sA_d {i : Nat} {is : List Nat} {x : D} {vs : List SV} : setAll (i :: is) (.d x :: vs) env = if i < env.length then setAll is vs (env.set i (some (.d x))) else none := Eq.trans rfl rfl
theorem sA_o {i : Nat} {is : List Nat} {x : Ds} {vs : List SV} : setAll (i :: is) (.own x :: vs) env = if i < env.length then setAll is vs (env.set i (some (.own x))) else none := Eq.trans rfl rfl
theorem x_unp {is : List Nat} {e : E} : exS G c (.unp is e) env m = .of (evE G c e env m) fun v m => setK (bindT (.tup is) v env) m := by
  rw [exS]; congr; funext v m; cases bindT (.tup is) v env <;> rfl
def nwK (i : Nat) (env : EnvT) : Option (List Int) → Mem → O
  | some ns, m => if i < env.length then .nx (env.set i (some (.h m.length))) (m ++ [.nums ns]) else .no
  | none, _ => .no
theorem nwK_s {i : Nat} {ns : List Int} : nwK i env (some ns) m = if i < env.length then .nx (env.set i (some (.h m.length))) (m ++ [.nums ns]) else .no := Eq.trans rfl rfl
def newK (i : Nat) (env : EnvT) : SV → Mem → O
  | .own ds, m => nwK i env (intsOf ds) m
  | _, _ => .no
theorem newK_o {i : Nat} {ds : Ds} : newK i env (.own ds) m = nwK i env (intsOf ds) m := Eq.trans rfl rfl
theorem x_newh {i : Nat} {e : E} : exS G c (.newh i e) env m = .of (evE G c e env m) fun v m => newK i env v m := by
  rw [exS]; congr; funext v m; cases v <;> first | rfl | (unfold newK nwK; dsimp only; rename_i ds; cases intsOf ds <;> rfl)
def appK (i : Nat) (ds : Ds) (env : EnvT) : Option D → Mem → O
  | some y, m => if ds.length < LIM then .nx (env.set i (some (.own (ds ++ [y])))) m else .no
  | none, _ => .no
theorem appK_s {i : Nat} {ds : Ds} {y : D} : appK i ds env (some y) m = if ds.length < LIM then .nx (env.set i (some (.own (ds ++ [y])))) m else .no := Eq.trans rfl rfl
def apE (i : Nat) (env : EnvT) (r : R SV) : Option (Option SV) → O
  | some (some (.own ds)) => .of r fun v m => appK i ds env (toD v) m
  | _ => .no
theorem x_app {i : Nat} {e : E} : exS G c (.app i e) env m = apE i env (evE G c e env m) env[i]? := by
  rw [exS]; unfold apE
  rcases env[i]? with _ | _ | v <;> first | rfl | (cases v <;> first | rfl | (dsimp only; congr; funext v m; unfold appK; cases toD v <;> rfl))
theorem apE_o {i : Nat} {r : R SV} {ds : Ds} : apE i env r (some (some (.own ds))) = .of r fun v m => appK i ds env (toD v) m := Eq.trans rfl rfl
def stE (i : Nat) (env : EnvT) (r : R SV) (ri : Mem → R SV) : Option (Option SV) → O
  | some (some (.own ds)) => .of r fun v m => .of (ri m) fun w m => match w, toD v with
      | .d (.int j), some y => if 0 ≤ j ∧ j.toNat < ds.length then .nx (env.set i (some (.own (ds.set j.toNat y)))) m else .no
      | _, _ => .no
  | some (some (.h k)) => .of r fun v m => .of (ri m) fun w m => match w, v with
      | .d (.int j), .d (.int y) => match m[k]? with
        | some (.nums ns) => if 0 ≤ j ∧ j.toNat < ns.length then .nx env (m.set k (.nums (ns.set j.toNat y))) else .no
        | none => .no
      | _, _ => .no
  | _ => .no
theorem x_sti {i : Nat} {ix e : E} : exS G c (.sti i ix e) env m = stE i env (evE G c e env m) (fun m => evE G c ix env m) env[i]? := by
  rw [exS]; unfold stE
  rcases env[i]? with _ | _ | v <;> first | rfl | (cases v <;> first | rfl | (dsimp only; congr))
theorem x_exp {e : E} : exS G c (.exp e) env m = .of (evE G c e env m) fun _ m => .nx env m := by rw [exS]
theorem x_retv {i : Nat} : exS G c (.ret (.var i)) env m = match env[i]? with
      | some (some (.own ds)) => .rt (.own ds) m
      | some (some (.h _)) => .no
      | some (some v) => .rt v m
      | _ => .no := by rw [exS] <;> rfl
def isVar : E → Bool
  | .var _ => true
  | _ => false
def rtK : SV → Mem → O
  | .p _, _ => .no
  | .h _, _ => .no
  | v, m => .rt v m
theorem rtK_d {x : D} : rtK (.d x) m = .rt (.d x) m := Eq.trans rfl rfl
theorem rtK_o {x : Ds} : rtK (.own x) m = .rt (.own x) m := Eq.trans rfl rfl
theorem x_ret {e : E} (h : isVar e = false) : exS G c (.ret e) env m = .of (evE G c e env m) fun v m => rtK v m := by
  cases e <;> first | (simp [isVar] at h; done) | (rw [exS]; (show O.of _ _ = _; congr; funext v m; cases v <;> rfl); (intro i z; cases z))
theorem x_retN : exS G c .retN env m = .rt (.d .none) m := by rw [exS]
def ifK : SV → O → O → O
  | .d (.bool true), a, _ => a
  | .d (.bool false), _, b => b
  | _, _, _ => .no
theorem ifK_b {b : Bool} {x y : O} : ifK (.d (.bool b)) x y = if b = true then x else y := by cases b <;> rfl
theorem x_ifs {t : E} {a b : Ss} : exS G c (.ifs t a b) env m = .of (evE G c t env m) fun v m => ifK v (exB G c a env m) (exB G c b env m) := by
  rw [exS]; congr; funext v m; cases v with
  | d x => cases x with
    | bool b => cases b <;> rfl
    | _ => rfl
  | _ => rfl
theorem x_whl {t : E} {b : Ss} : exS G c (.whl t b) env m = whileL (evE G c t) (exB G c b) 100 env m := by rw [exS]
theorem x_fr {tg : Tg} {it : It} {b : Ss} : exS G c (.fr tg it b) env m = .of (evI G c false it (frz it env) m) fun xs m => forL tg (exB G c b) xs (frz it env) m := by rw [exS]
theorem x_rai {k : Nat} : exS G c (.rai k) env m = .ex k none m := by rw [exS]
def raK (k : Nat) : SV → Mem → O
  | .d (.int i), m => .ex k (some i) m
  | _, _ => .no
theorem raK_i {k : Nat} {i : Int} : raK k (.d (.int i)) m = .ex k (some i) m := Eq.trans rfl rfl
theorem x_raiv {k : Nat} {e : E} : exS G c (.raiv k e) env m = .of (evE G c e env m) fun v m => raK k v m := by
  rw [exS]; congr; funext v m; cases v with
  | d x => cases x <;> rfl
  | _ => rfl
theorem x_frz {i : Nat} {s : S} : exS G c (.frz i s) env m = exS G c s (fz i env) m := by rw [exS]
theorem b_nil : exB G c .nil env m = .nx env m := by rw [exB]
theorem b_dct {i : Nat} {kvs : List (Str × Str)} {a b : E} : exB G c (.dct i kvs a b) env m = dcO env[i]? (bd (evE G c a env m) fun x m => dcK (dkF kvs x) fun t => bd (evE G c b env m) fun y m => lift (binD .add (.tuple [.str t]) y) m) := by rw [exB]
theorem dcK_s {t : Str} {k : Str → R SV} : dcK (some t) k = k t := Eq.trans rfl rfl
theorem dcO_ok {x : D} : dcO (some none) (.ok (.d x) m) = .rt (.d x) m := Eq.trans rfl rfl
theorem b_cons {s : S} {ss : Ss} : exB G c (.cons s ss) env m = (exS G c s env m).seq (exB G c ss) := by rw [exB]
theorem frz_e {e : E} (h : isVar e = false) : frz (.dat e) env = env := by cases e <;> first | rfl | (simp [isVar] at h)
theorem frz_v {i : Nat} : frz (.dat (.var i)) env = fz i env := Eq.trans rfl rfl
theorem frz_ev {i : Nat} : frz (.enm (.var i)) env = fz i env := Eq.trans rfl rfl
theorem frz_r {e : E} : frz (.rng e) env = env := Eq.trans rfl rfl
theorem frz_r2 {a b : E} : frz (.rng2 a b) env = env := Eq.trans rfl rfl
theorem frz_f {ns : List Nat} : frz (.fns ns) env = env := Eq.trans rfl rfl
def fzK (i : Nat) (env : EnvT) : Option (Option SV) → EnvT
  | some (some (.own ds)) => env.set i (some (.d (.list ds)))
  | _ => env
theorem fz_eq {i : Nat} : fz i env = fzK i env env[i]? := by unfold fz fzK; rcases env[i]? with _ | _ | v <;> first | rfl | (cases v <;> rfl)
theorem fzK_d {i : Nat} {x : D} : fzK i env (some (some (.d x))) = env := Eq.trans rfl rfl
theorem fzK_o {i : Nat} {x : Ds} : fzK i env (some (some (.own x))) = env.set i (some (.d (.list x))) := Eq.trans rfl rfl
theorem fL_nil {tg : Tg} {b : EnvT → Mem → O} : forL tg b [] env m = .nx env m := Eq.trans rfl rfl
def fLK (tg : Tg) (b : EnvT → Mem → O) (xs : List SV) : Option EnvT → Mem → O
  | some e', m => (b e' m).seq (forL tg b xs)
  | none, _ => .no
theorem fLK_s {tg : Tg} {b : EnvT → Mem → O} {xs : List SV} {e : EnvT} : fLK tg b xs (some e) m = (b e m).seq (forL tg b xs) := Eq.trans rfl rfl
theorem fL_cons {tg : Tg} {b : EnvT → Mem → O} {x : SV} {xs : List SV} : forL tg b (x :: xs) env m = fLK tg b xs (bindT tg x env) m := by
  unfold fLK; rw [forL]; cases bindT tg x env <;> rfl
theorem fL_app {tg : Tg} {b : EnvT → Mem → O} : ∀ {xs ys : List SV} {env : EnvT} {m : Mem}, forL tg b (xs ++ ys) env m = (forL tg b xs env m).seq (forL tg b ys)
  | [], ys, env, m => rfl
  | x :: xs, ys, env, m => by
    rw [List.cons_append, forL, forL]
    cases bindT tg x env with
    | none => rfl
    | some e =>
      dsimp only
      cases b e m with
      | nx e2 m2 => show forL tg b (xs ++ ys) e2 m2 = _; rw [fL_app]; rfl
      | rt => rfl
      | ex => rfl
      | no => rfl
theorem wL_succ {t : EnvT → Mem → R SV} {b : EnvT → Mem → O} {n : Nat} : whileL t b (n + 1) env m = .of (t env m) fun v m1 => ifK v ((b env m1).seq (whileL t b n)) (.nx env m1) := by
  rw [whileL]; cases t env m with
  | ok v m1 => cases v with
    | d x => cases x with
      | bool b => cases b <;> rfl
      | _ => rfl
    | _ => rfl
  | ex => rfl
  | no => rfl
/-! wipe -/
theorem wipe_nil : wipeE env [] = env := Eq.trans rfl rfl
theorem wipe_cons {v : Nat} {vs : List Nat} : wipeE env (v :: vs) = (wipeE env vs).set v none := Eq.trans rfl rfl
end
/-! data -/
section
variable {a b : Str} {i j : Int} {xs ys : Ds} {b1 b2 : Bool}
theorem c_lt : cmpD .lt (.int i) (.int j) = some (decide (i < j)) := Eq.trans rfl rfl
theorem c_le : cmpD .le (.int i) (.int j) = some (decide (i ≤ j)) := Eq.trans rfl rfl
theorem c_gt : cmpD .gt (.int i) (.int j) = some (decide (j < i)) := Eq.trans rfl rfl
theorem c_ge : cmpD .ge (.int i) (.int j) = some (decide (j ≤ i)) := Eq.trans rfl rfl
theorem c_eqi : cmpD .eq (.int i) (.int j) = some (decide (i = j)) := by unfold cmpD eqOk; dsimp only; rw [if_pos (by simp [PyData.depth])]; simp only [PyData.eqv]; congr 1
theorem c_nei : cmpD .ne (.int i) (.int j) = some (!decide (i = j)) := by unfold cmpD eqOk; dsimp only; rw [if_pos (by simp [PyData.depth])]; simp only [PyData.eqv]; congr 1
theorem c_eqs : cmpD .eq (.str a) (.str b) = some (decide (a = b)) := by unfold cmpD eqOk; dsimp only; rw [if_pos (by simp [PyData.depth])]; simp only [PyData.eqv]; congr 1
theorem c_nes : cmpD .ne (.str a) (.str b) = some (!decide (a = b)) := by unfold cmpD eqOk; dsimp only; rw [if_pos (by simp [PyData.depth])]; simp only [PyData.eqv]; congr 1
theorem c_eqb : cmpD .eq (.bool b1) (.bool b2) = some (b1 == b2) := by unfold cmpD eqOk; dsimp only; rw [if_pos (by simp [PyData.depth])]; simp only [PyData.eqv]
theorem c_neb : cmpD .ne (.bool b1) (.bool b2) = some (!(b1 == b2)) := by unfold cmpD eqOk; dsimp only; rw [if_pos (by simp [PyData.depth])]; simp only [PyData.eqv]
theorem eqvA_nil : PyData.eqvAll xs [] = xs.isEmpty := by cases xs <;> simp [PyData.eqvAll]
theorem dep_nil : (PyData.list []).depth = 1 := by simp [PyData.depth, PyData.depthAll]
theorem dep_nilt : (PyData.tuple []).depth = 1 := by simp [PyData.depth, PyData.depthAll]
theorem c_eqn : cmpD .eq (.list xs) (.list []) = some xs.isEmpty := by
  unfold cmpD eqOk; dsimp only; rw [dep_nil, if_pos (by apply decide_eq_true; omega)]; simp only [PyData.eqv, eqvA_nil]
theorem c_nen : cmpD .ne (.list xs) (.list []) = some (!xs.isEmpty) := by
  unfold cmpD eqOk; dsimp only; rw [dep_nil, if_pos (by apply decide_eq_true; omega)]; simp only [PyData.eqv, eqvA_nil]
theorem c_eqtn : cmpD .eq (.tuple xs) (.tuple []) = some xs.isEmpty := by
  unfold cmpD eqOk; dsimp only; rw [dep_nilt, if_pos (by apply decide_eq_true; omega)]; simp only [PyData.eqv, eqvA_nil]
theorem c_netn : cmpD .ne (.tuple xs) (.tuple []) = some (!xs.isEmpty) := by
  unfold cmpD eqOk; dsimp only; rw [dep_nilt, if_pos (by apply decide_eq_true; omega)]; simp only [PyData.eqv, eqvA_nil]
theorem bi_add : binD .add (.int i) (.int j) = some (.d (.int (i + j))) := Eq.trans rfl rfl
theorem bi_sub : binD .sub (.int i) (.int j) = some (.d (.int (i - j))) := Eq.trans rfl rfl
theorem bi_addt : binD .add (.tuple xs) (.tuple ys) = if xs.length + ys.length ≤ LIM then some (.d (.tuple (xs ++ ys))) else none := Eq.trans rfl rfl
theorem bi_addl : binD .add (.list xs) (.list ys) = if xs.length + ys.length ≤ LIM then some (.own (xs ++ ys)) else none := Eq.trans rfl rfl
theorem bi_adds : binD .add (.str a) (.str b) = if a.length + b.length ≤ LIM then some (.d (.str (a ++ b))) else none := Eq.trans rfl rfl
theorem bi_addB : binD .add (.bool b1) (.int j) = some (.d (.int ((if b1 = true then 1 else 0) + j))) := Eq.trans rfl rfl
theorem bi_subB : binD .sub (.bool b1) (.int j) = some (.d (.int ((if b1 = true then 1 else 0) - j))) := Eq.trans rfl rfl
theorem bl_strb : bltD .str [.bool b1] = some (.d (.str (if b1 = true then .ofString "True" else .ofString "False"))) := Eq.trans rfl rfl
theorem bl_lent : bltD .len [.tuple xs] = some (.d (.int xs.length)) := Eq.trans rfl rfl
theorem bl_lenl : bltD .len [.list xs] = some (.d (.int xs.length)) := Eq.trans rfl rfl
theorem bl_tup : bltD .tuple [.list xs] = some (.d (.tuple xs)) := Eq.trans rfl rfl
theorem bl_int : bltD .int [.int i] = some (.d (.int i)) := Eq.trans rfl rfl
theorem bl_bool : bltD .bool [.bool b1] = some (.d (.bool b1)) := Eq.trans rfl rfl
theorem bl_abs : bltD .abs [.int i] = some (.d (.int (if i < 0 then -i else i))) := Eq.trans rfl rfl
theorem bl_min : bltD .min2 [.int i, .int j] = some (.d (.int (if j < i then j else i))) := Eq.trans rfl rfl
theorem bl_max : bltD .max2 [.int i, .int j] = some (.d (.int (if j > i then j else i))) := Eq.trans rfl rfl
theorem ix_t : idxD (.tuple xs) (.int i) = at_ xs i := Eq.trans rfl rfl
theorem ix_l : idxD (.list xs) (.int i) = at_ xs i := Eq.trans rfl rfl
theorem at_nat {α : Type} {xs : List α} {n : Nat} : at_ xs (n : Int) = xs[n]? := by
  unfold at_; rw [if_pos (by omega)]; rfl
theorem at_0 {α : Type} {x : α} {xs : List α} : at_ (x :: xs) 0 = some x := Eq.trans rfl rfl
theorem at_1 {α : Type} {x y : α} {xs : List α} : at_ (x :: y :: xs) 1 = some y := Eq.trans rfl rfl
theorem at_2 {α : Type} {x y z : α} {xs : List α} : at_ (x :: y :: z :: xs) 2 = some z := Eq.trans rfl rfl
theorem at_3 {α : Type} {x y z w : α} {xs : List α} : at_ (x :: y :: z :: w :: xs) 3 = some w := Eq.trans rfl rfl
theorem at_4 {α : Type} {x y z w v : α} {xs : List α} : at_ (x :: y :: z :: w :: v :: xs) 4 = some v := Eq.trans rfl rfl
theorem ii_int : isiD (.int i) .int = true := Eq.trans rfl rfl
theorem ii_intb : isiD (.int i) .bool = false := Eq.trans rfl rfl
theorem ii_tt : isiD (.tuple xs) .tuple = true := Eq.trans rfl rfl
theorem ii_ss : isiD (.str a) .str = true := Eq.trans rfl rfl
theorem ii_ti : isiD (.tuple xs) .int = false := Eq.trans rfl rfl
theorem ii_tb : isiD (.tuple xs) .bool = false := Eq.trans rfl rfl
theorem ii_bb : isiD (.bool b1) .bool = true := Eq.trans rfl rfl
end
theorem len_rng {a : Int} {n : Nat} : (rngD a n).length = n := by unfold rngD; rw [List.length_map, List.length_range]
theorem LIM_eq : LIM = 1000000 := Eq.trans rfl rfl
theorem nn_none : isNn (.d .none) = true := Eq.trans rfl rfl
theorem nn_bool {b : Bool} : isNn (.d (.bool b)) = false := Eq.trans rfl rfl
theorem nn_int {i : Int} : isNn (.d (.int i)) = false := Eq.trans rfl rfl
theorem nn_str {x : Str} : isNn (.d (.str x)) = false := Eq.trans rfl rfl
theorem nn_tup {x : Ds} : isNn (.d (.tuple x)) = false := Eq.trans rfl rfl
theorem nn_list {x : Ds} : isNn (.d (.list x)) = false := Eq.trans rfl rfl
theorem nn_own {x : Ds} : isNn (.own x) = false := Eq.trans rfl rfl
theorem nn_p {x : Ds} : isNn (.p x) = false := Eq.trans rfl rfl
theorem bk_b {b k : Bool} : isBk b (.bool k) = (k == b) := Eq.trans rfl rfl
theorem bk_n {b : Bool} : isBk b .none = false := Eq.trans rfl rfl
theorem dbl_eq {b : Bool} : dbl b = .d (.bool b) := Eq.trans rfl rfl
/-! bools -/
section
variable {m : Mem} {b : Bool}
theorem ite_okb {p : Prop} [Decidable p] {x y : Bool} : (if p then (R.ok (SV.d (PyData.bool x)) m : R SV) else .ok (.d (.bool y)) m) = .ok (.d (.bool (if p then x else y))) m := by split <;> rfl
theorem ite_okB {p : Prop} [Decidable p] {x y : Bool} : (if p then (R.ok x m : R Bool) else .ok y m) = .ok (if p then x else y) m := by split <;> rfl
theorem ite_tb {b x : Bool} : (if b = true then x else false) = (b && x) := by cases b <;> rfl
theorem ite_bt {b x : Bool} : (if b = true then true else x) = (b || x) := by cases b <;> rfl
theorem ite_ft {b : Bool} : (if b = true then false else true) = !b := by cases b <;> rfl
theorem ite_fx {b x : Bool} : (if b = true then false else x) = (!b && x) := by cases b <;> rfl
end
end Tn

set_option maxRecDepth 100000
namespace Tn
open PySem
local macro_rules | `(tactic| simp_arith [$ls,*]) => `(tactic| simp (disch := first | assumption | omega | rfl | decide) only [$ls,*, runF_mk, LIM_eq, fLK_s, fL_nil, apE_o, x_sti, e_glo, gloK_s, e_cav, cvK_f, kdK_s, kdL_s, e_kdc, newK_o, len_rng, initE_eq, fin_nx, fin_rt, fin_ex, fin_ite, bind_ok, bind_ex, bind_no, bind_ite, of_ok, of_ex, of_no, of_ite, seq_nx, seq_rt, seq_ex, seq_no, seq_ite, bd_d, bd_own, bd_p, bd_ex, bd_ite, lift_some, lift_none, lift_ite, map_some, map_none, opd_d, opd_own, opd_p, toD_d, toD_own, md_nil, md_d, md_own, ma_nil, ma_d, ma_own, ma_h, ma_f, ma_s, mo_nil, mo_d, mo_own, mo_p, e_var, v_own, v_d, v_h, v_f, v_s, e_cst, e_fnr, e_pow, e_bin, e_neg, negI, e_cmp, e_chn, chK_b, e_isn, nn_none, nn_bool, nn_int, nn_str, nn_tup, nn_list, nn_own, nn_p, e_isb, bk_b, bk_n, e_ands, e_ors, e_not, bK_b, e_ite, noP_d, noP_own, noP_ex, noP_ite, e_tup, e_lst, tupK_s, lstK_s, e_idx, ixK_d, ixK_own, ixK_p, ixK_h, ixK_s, memK_s, e_slo, e_shi, e_rev, e_call, clK_s, e_blt, bl2_s, bl2_d, bl2_own, bl2_p, blO_s, e_isi, e_sse, e_lrg, e_trg, e_cm1, cmK_ok, e_cm2, cmK2_ok, e_ler, e_tnot, tnK_b, tnK_i, x_frz, bi_addB, bi_subB, bl_strb, lerK_ok, lerK_ex, lerO_s, lerK_ite, s_nil, s_cons, a_one, a_cons, o_one, o_cons, t_nil, t_cons, tK_b, i_dat, datK_t, datK_l, datK_o, datK_p, i_rng, i_rng2, rng2K_i, rngK_i, i_enm, enm2_t, enm2_l, enm2_o, enm2_p, i_fns, bT_one, bT_onef, bT_tup, x_asg, setS_d, setS_o, setS_f, x_asgs, setK_s, sA_nil, sA_d, sA_o, x_unp, x_newh, appK_s, x_app, x_exp, x_retv, x_ret, rtK_d, rtK_o, x_retN, x_ifs, ifK_b, x_whl, x_fr, x_rai, x_raiv, raK_i, b_nil, b_cons, b_dct, dcK_s, dcO_ok, frz_e, frz_v, frz_ev, frz_r, frz_r2, frz_f, fz_eq, fzK_d, fzK_o, wipe_nil, wipe_cons, c_lt, c_le, c_gt, c_ge, c_eqi, c_nei, c_eqs, c_nes, c_eqb, c_neb, c_eqn, c_nen, c_eqtn, c_netn, bi_add, bi_sub, bi_addt, bi_addl, bi_adds, bl_lent, bl_lenl, bl_tup, bl_int, bl_bool, bl_abs, bl_min, bl_max, ix_t, ix_l, at_0, at_1, at_2, at_3, at_4, isiD, dbl_eq, ite_okb, ite_okB, ite_tb, ite_bt, ite_ft, ite_fx, List.length_cons, List.length_nil, List.map_cons, List.map_nil, List.length_map, List.cons_append, List.nil_append, List.append_nil, Nat.reduceAdd, Nat.reduceSub, Nat.reduceLeDiff, Nat.reduceLT, Nat.zero_add, List.reduceReplicate, List.getElem?_cons_zero, List.getElem?_cons_succ, List.set_cons_zero, List.set_cons_succ, List.zip_cons_cons, List.zip_nil_left, List.zip_nil_right, List.foldl_cons, List.foldl_nil, List.all_cons, List.all_nil, List.take_length, and_true, true_and, if_true, if_false, ite_true, ite_false, if_pos, ↓reduceIte, Bool.false_eq_true, Bool.not_true, Bool.not_false, Bool.true_and, Bool.and_true, Bool.false_and, Bool.and_false, Bool.false_or, Bool.or_false, Bool.true_or, Bool.or_true, Bool.not_not, decide_true, decide_false, bne_self_eq_false, Bool.bne_false, Bool.bne_true, and_self])
local macro_rules | `(tactic| simp_arith) => `(tactic| simp (disch := first | assumption | omega | rfl | decide) only [runF_mk, LIM_eq, fLK_s, fL_nil, apE_o, x_sti, e_glo, gloK_s, e_cav, cvK_f, kdK_s, kdL_s, e_kdc, newK_o, len_rng, initE_eq, fin_nx, fin_rt, fin_ex, fin_ite, bind_ok, bind_ex, bind_no, bind_ite, of_ok, of_ex, of_no, of_ite, seq_nx, seq_rt, seq_ex, seq_no, seq_ite, bd_d, bd_own, bd_p, bd_ex, bd_ite, lift_some, lift_none, lift_ite, map_some, map_none, opd_d, opd_own, opd_p, toD_d, toD_own, md_nil, md_d, md_own, ma_nil, ma_d, ma_own, ma_h, ma_f, ma_s, mo_nil, mo_d, mo_own, mo_p, e_var, v_own, v_d, v_h, v_f, v_s, e_cst, e_fnr, e_pow, e_bin, e_neg, negI, e_cmp, e_chn, chK_b, e_isn, nn_none, nn_bool, nn_int, nn_str, nn_tup, nn_list, nn_own, nn_p, e_isb, bk_b, bk_n, e_ands, e_ors, e_not, bK_b, e_ite, noP_d, noP_own, noP_ex, noP_ite, e_tup, e_lst, tupK_s, lstK_s, e_idx, ixK_d, ixK_own, ixK_p, ixK_h, ixK_s, memK_s, e_slo, e_shi, e_rev, e_call, clK_s, e_blt, bl2_s, bl2_d, bl2_own, bl2_p, blO_s, e_isi, e_sse, e_lrg, e_trg, e_cm1, cmK_ok, e_cm2, cmK2_ok, e_ler, e_tnot, tnK_b, tnK_i, x_frz, bi_addB, bi_subB, bl_strb, lerK_ok, lerK_ex, lerO_s, lerK_ite, s_nil, s_cons, a_one, a_cons, o_one, o_cons, t_nil, t_cons, tK_b, i_dat, datK_t, datK_l, datK_o, datK_p, i_rng, i_rng2, rng2K_i, rngK_i, i_enm, enm2_t, enm2_l, enm2_o, enm2_p, i_fns, bT_one, bT_onef, bT_tup, x_asg, setS_d, setS_o, setS_f, x_asgs, setK_s, sA_nil, sA_d, sA_o, x_unp, x_newh, appK_s, x_app, x_exp, x_retv, x_ret, rtK_d, rtK_o, x_retN, x_ifs, ifK_b, x_whl, x_fr, x_rai, x_raiv, raK_i, b_nil, b_cons, b_dct, dcK_s, dcO_ok, frz_e, frz_v, frz_ev, frz_r, frz_r2, frz_f, fz_eq, fzK_d, fzK_o, wipe_nil, wipe_cons, c_lt, c_le, c_gt, c_ge, c_eqi, c_nei, c_eqs, c_nes, c_eqb, c_neb, c_eqn, c_nen, c_eqtn, c_netn, bi_add, bi_sub, bi_addt, bi_addl, bi_adds, bl_lent, bl_lenl, bl_tup, bl_int, bl_bool, bl_abs, bl_min, bl_max, ix_t, ix_l, at_0, at_1, at_2, at_3, at_4, isiD, dbl_eq, ite_okb, ite_okB, ite_tb, ite_bt, ite_ft, ite_fx, List.length_cons, List.length_nil, List.map_cons, List.map_nil, List.length_map, List.cons_append, List.nil_append, List.append_nil, Nat.reduceAdd, Nat.reduceSub, Nat.reduceLeDiff, Nat.reduceLT, Nat.zero_add, List.reduceReplicate, List.getElem?_cons_zero, List.getElem?_cons_succ, List.set_cons_zero, List.set_cons_succ, List.zip_cons_cons, List.zip_nil_left, List.zip_nil_right, List.foldl_cons, List.foldl_nil, List.all_cons, List.all_nil, List.take_length, and_true, true_and, if_true, if_false, ite_true, ite_false, if_pos, ↓reduceIte, Bool.false_eq_true, Bool.not_true, Bool.not_false, Bool.true_and, Bool.and_true, Bool.false_and, Bool.and_false, Bool.false_or, Bool.or_false, Bool.true_or, Bool.or_true, Bool.not_not, decide_true, decide_false, bne_self_eq_false, Bool.bne_false, Bool.bne_true, and_self])
/-! ### a comprehension whose parts are known -/
section
variable {α : Type} {tst : EnvT → Mem → R Bool} {el : EnvT → Mem → R SV} {env : EnvT} {m : Mem}
theorem cLs {i : Nat} (enc : α → SV) (p : α → Bool) (f : α → D) (e : α → EnvT) {tg : Tg} :
    ∀ (ys : List α) (acc : Ds), (∀ y ∈ ys, bindT tg (enc y) env = some (e y)) → (∀ y ∈ ys, tst (e y) m = .ok (p y) m) → (∀ y ∈ ys, p y = true → ∃ v, el (e y) m = .ok v m ∧ toD v = some (f y)) →
      cLoop tg tst el env (ys.map enc) acc m = .ok (acc ++ (ys.filter p).map f) m
  | [], acc, _, _, _ => by simp [cLoop]
  | x :: xs, acc, h0, h2, h3 => by
    have ih := fun a => cLs (i := i) enc p f e (tg := tg) xs a (fun y hy => h0 y (.tail _ hy)) (fun y hy => h2 y (.tail _ hy)) (fun y hy => h3 y (.tail _ hy))
    rw [List.map_cons, cLoop, h0 x (.head _)]
    dsimp only
    rw [h2 x (.head _)]
    cases q : p x with
    | true =>
      dsimp only
      obtain ⟨v, hv, hd⟩ := h3 x (.head _) q
      rw [hv]
      dsimp only
      rw [hd]
      dsimp only
      rw [ih, List.filter_cons_of_pos q, List.map_cons, List.append_assoc]
      rfl
    | false =>
      dsimp only
      rw [ih, List.filter_cons_of_neg (by rw [q]; decide)]
/-- one name; the items are data -/
theorem cL1 {i : Nat} {enc : α → D} (p : α → Bool) (f : α → D) {ys : List α} (hi : i < env.length) (h2 : ∀ y ∈ ys, tst (env.set i (some (.d (enc y)))) m = .ok (p y) m)
    (h3 : ∀ y ∈ ys, p y = true → el (env.set i (some (.d (enc y)))) m = .ok (.d (f y)) m) : cLoop (.one i) tst el env ((ys.map enc).map .d) [] m = .ok ((ys.filter p).map f) m := by
  rw [List.map_map]
  refine (cLs (i := 0) (SV.d ∘ enc) p f (fun y => env.set i (some (.d (enc y)))) ys [] (fun y _ => ?_) h2 (fun y hy q => ⟨_, h3 y hy q, rfl⟩)).trans (by rw [List.nil_append])
  show bindT (.one i) (.d (enc y)) env = _
  rw [bT_one, if_pos hi]
/-- no test -/
theorem cL0 {i : Nat} {enc : α → D} (f : α → D) {ys : List α} (hi : i < env.length) (h2 : ∀ y ∈ ys, tst (env.set i (some (.d (enc y)))) m = .ok true m)
    (h3 : ∀ y ∈ ys, el (env.set i (some (.d (enc y)))) m = .ok (.d (f y)) m) : cLoop (.one i) tst el env ((ys.map enc).map .d) [] m = .ok (ys.map f) m := by
  rw [cL1 (fun _ => true) f hi h2 (fun y hy _ => h3 y hy)]
  rw [List.filter_eq_self.mpr (fun _ _ => rfl)]
/-- the items are numbers from 0 -/
theorem cLr {i : Nat} (p : Nat → Bool) (f : Nat → D) {n : Nat} (hi : i < env.length) (h2 : ∀ y < n, tst (env.set i (some (.d (.int (y : Nat))))) m = .ok (p y) m)
    (h3 : ∀ y < n, p y = true → el (env.set i (some (.d (.int (y : Nat))))) m = .ok (.d (f y)) m) : cLoop (.one i) tst el env (rngD 0 n) [] m = .ok (((List.range n).filter p).map f) m := by
  have : rngD 0 n = ((List.range n).map fun y : Nat => PyData.int (y : Int)).map SV.d := by
    unfold rngD; rw [List.map_map]; congr; funext y; show SV.d (.int (0 + (y : Int))) = _; rw [Int.zero_add]; rfl
  rw [this]
  exact cL1 p f hi (fun y hy => h2 y (List.mem_range.mp hy)) (fun y hy => h3 y (List.mem_range.mp hy))
end
theorem int_beq {i j : Int} : (i == j) = decide (i = j) := by by_cases h : i = j <;> simp [h]
theorem any_eqv {ks : List Int} {i : Int} : ((ks.map PyData.int).any fun z => PyData.eqv z (.int i)) = decide (i ∈ ks) := by
  induction ks with
  | nil => rfl
  | cons k r ih =>
    rw [List.map_cons, List.any_cons, ih]
    simp only [PyData.eqv, int_beq]
    by_cases h : i = k <;> simp [h, eq_comm]
theorem all_flat {ks : List Int} : (ks.map PyData.int).all isFlat = true := by
  induction ks with
  | nil => rfl
  | cons k r ih => rw [List.map_cons, List.all_cons, ih]; rfl
theorem c_inI {ks : List Int} {i : Int} : cmpD .isin (.int i) (.tuple (ks.map .int)) = some (decide (i ∈ ks)) := by
  unfold cmpD inD; dsimp only; rw [all_flat, any_eqv]; rfl
theorem c_ninI {ks : List Int} {i : Int} : cmpD .notin (.int i) (.tuple (ks.map .int)) = some (!decide (i ∈ ks)) := by
  unfold cmpD inD; dsimp only; rw [all_flat, any_eqv]; rfl
theorem eqvA_int : ∀ {a b : List Int}, PyData.eqvAll (a.map .int) (b.map .int) = decide (a = b)
  | [], [] => by simp [PyData.eqvAll]
  | [], _ :: _ => by simp [PyData.eqvAll]
  | _ :: _, [] => by simp [PyData.eqvAll]
  | x :: a, y :: b => by
    simp only [List.map_cons, PyData.eqvAll, eqvA_int, PyData.eqv, int_beq]
    by_cases h : x = y <;> simp [h]
theorem depA_int {a : List Int} : PyData.depthAll (a.map .int) = 0 := by
  induction a with
  | nil => simp [PyData.depthAll]
  | cons x r ih => rw [List.map_cons, PyData.depthAll, ih]; simp [PyData.depth]
theorem c_eqI {a b : List Int} : cmpD .eq (.tuple (a.map .int)) (.tuple (b.map .int)) = some (decide (a = b)) := by
  unfold cmpD eqOk; dsimp only; rw [if_pos (by simp [PyData.depth, depA_int])]; simp only [PyData.eqv, eqvA_int]
theorem c_neI {a b : List Int} : cmpD .ne (.tuple (a.map .int)) (.tuple (b.map .int)) = some (!decide (a = b)) := by
  unfold cmpD eqOk; dsimp only; rw [if_pos (by simp [PyData.depth, depA_int])]; simp only [PyData.eqv, eqvA_int]
theorem isEmpty_map {α β : Type} {f : α → β} {l : List α} : (l.map f).isEmpty = l.isEmpty := by cases l <;> rfl
theorem isEmpty_filter {α : Type} {p : α → Bool} {l : List α} : (l.filter p).isEmpty = !l.any p := by
  induction l with
  | nil => rfl
  | cons a r ih => by_cases h : p a = true <;> simp_all [List.filter_cons]
/-! ### words, wishes -/
inductive Wd | same | covers | unlike | bares
  deriving DecidableEq
def Wd.s : Wd → Str
  | .same => .ofString "same" | .covers => .ofString "covers" | .unlike => .ofString "unlike" | .bares => .ofString "bares"
structure W where
  wd : Wd
  a : List Int
  b : List Int
  deriving DecidableEq
def eW (w : W) : D := .tuple [.str w.wd.s, .tuple (w.a.map .int), .tuple (w.b.map .int)]
def eM (k : List Int) : D := .tuple (k.map .int)
theorem wd_same {w : Wd} : decide (w.s = .ofString "same") = decide (w = .same) := by cases w <;> decide
theorem wd_covers {w : Wd} : decide (w.s = .ofString "covers") = decide (w = .covers) := by cases w <;> decide
theorem wd_unlike {w : Wd} : decide (w.s = .ofString "unlike") = decide (w = .unlike) := by cases w <;> decide
theorem wd_bares {w : Wd} : decide (w.s = .ofString "bares") = decide (w = .bares) := by cases w <;> decide
theorem str_beq {a b : Str} : (a == b) = decide (a = b) := by by_cases h : a = b <;> simp [h]
theorem c_in2 {x a b : Str} : cmpD .isin (.str x) (.tuple [.str a, .str b]) = some (decide (x = a) || decide (x = b)) := by
  unfold cmpD inD; dsimp only; rw [if_pos (by rfl)]; simp only [List.any_cons, List.any_nil, PyData.eqv, str_beq, Bool.or_false]
  congr 2 <;> (apply decide_eq_decide.mpr; exact eq_comm)
theorem c_in3 {x a b c : Str} : cmpD .isin (.str x) (.tuple [.str a, .str b, .str c]) = some (decide (x = a) || (decide (x = b) || decide (x = c))) := by
  unfold cmpD inD; dsimp only; rw [if_pos (by rfl)]; simp only [List.any_cons, List.any_nil, PyData.eqv, str_beq, Bool.or_false]
  congr 2 <;> first | (apply decide_eq_decide.mpr; exact eq_comm) | (congr 1 <;> (apply decide_eq_decide.mpr; exact eq_comm))
/-! ### kinds -/
def meetsF (k m : List Int) : Bool := m.any fun p => decide (p ∈ k)
def partF (k : List Int) (w : W) : Bool :=
  if decide (w.wd = .covers) || decide (w.wd = .bares) then meetsF k w.b && !meetsF k w.a else meetsF k w.a != meetsF k w.b
section
variable {N : Nat} {m : Mem}
theorem c_meets {ks ms : List Int} (h : 1 ≤ N) (hm : ms.length ≤ 1000) : C N 48 [.d (.tuple (ks.map .int)), .d (.tuple (ms.map .int))] m = .ok (.d (.bool (meetsF ks ms))) m := by
  rw [C_unf t_meets h, f_meets]
  simp_arith
  rw [cL1 (fun p => decide (p ∈ ks)) .int (by simp) (fun y _ => by simp_arith [c_inI]) (fun y _ _ => by simp_arith)]
  simp_arith [isEmpty_map, isEmpty_filter]
  rfl
theorem c_is_parting {k : List Int} {w : W} (h : 2 ≤ N) (ha : w.a.length ≤ 1000) (hb : w.b.length ≤ 1000) : C N 49 [.d (.tuple (k.map .int)), .d (eW w)] m = .ok (.d (.bool (partF k w))) m := by
  rw [C_unf t_is_parting (by omega), f_is_parting, eW]
  simp_arith [c_meets, c_in2, wd_covers, wd_bares]
  unfold partF
  cases (decide (w.wd = Wd.covers) || decide (w.wd = Wd.bares)) <;> rfl
end
end Tn

set_option maxRecDepth 100000
namespace Tn
open PySem
local macro_rules | `(tactic| simp_arith [$ls,*]) => `(tactic| simp (disch := first | assumption | omega | rfl | decide) only [$ls,*, runF_mk, LIM_eq, fLK_s, fL_nil, apE_o, x_sti, e_glo, gloK_s, e_cav, cvK_f, kdK_s, kdL_s, e_kdc, newK_o, len_rng, initE_eq, fin_nx, fin_rt, fin_ex, fin_ite, bind_ok, bind_ex, bind_no, bind_ite, of_ok, of_ex, of_no, of_ite, seq_nx, seq_rt, seq_ex, seq_no, seq_ite, bd_d, bd_own, bd_p, bd_ex, bd_ite, lift_some, lift_none, lift_ite, map_some, map_none, opd_d, opd_own, opd_p, toD_d, toD_own, md_nil, md_d, md_own, ma_nil, ma_d, ma_own, ma_h, ma_f, ma_s, mo_nil, mo_d, mo_own, mo_p, e_var, v_own, v_d, v_h, v_f, v_s, e_cst, e_fnr, e_pow, e_bin, e_neg, negI, e_cmp, e_chn, chK_b, e_isn, nn_none, nn_bool, nn_int, nn_str, nn_tup, nn_list, nn_own, nn_p, e_isb, bk_b, bk_n, e_ands, e_ors, e_not, bK_b, e_ite, noP_d, noP_own, noP_ex, noP_ite, e_tup, e_lst, tupK_s, lstK_s, e_idx, ixK_d, ixK_own, ixK_p, ixK_h, ixK_s, memK_s, e_slo, e_shi, e_rev, e_call, clK_s, e_blt, bl2_s, bl2_d, bl2_own, bl2_p, blO_s, e_isi, e_sse, e_lrg, e_trg, e_cm1, cmK_ok, e_cm2, cmK2_ok, e_ler, e_tnot, tnK_b, tnK_i, x_frz, bi_addB, bi_subB, bl_strb, lerK_ok, lerK_ex, lerO_s, lerK_ite, s_nil, s_cons, a_one, a_cons, o_one, o_cons, t_nil, t_cons, tK_b, i_dat, datK_t, datK_l, datK_o, datK_p, i_rng, i_rng2, rng2K_i, rngK_i, i_enm, enm2_t, enm2_l, enm2_o, enm2_p, i_fns, bT_one, bT_onef, bT_tup, x_asg, setS_d, setS_o, setS_f, x_asgs, setK_s, sA_nil, sA_d, sA_o, x_unp, x_newh, appK_s, x_app, x_exp, x_retv, x_ret, rtK_d, rtK_o, x_retN, x_ifs, ifK_b, x_whl, x_fr, x_rai, x_raiv, raK_i, b_nil, b_cons, b_dct, dcK_s, dcO_ok, frz_e, frz_v, frz_ev, frz_r, frz_r2, frz_f, fz_eq, fzK_d, fzK_o, wipe_nil, wipe_cons, c_lt, c_le, c_gt, c_ge, c_eqi, c_nei, c_eqs, c_nes, c_eqb, c_neb, c_eqn, c_nen, c_eqtn, c_netn, bi_add, bi_sub, bi_addt, bi_addl, bi_adds, bl_lent, bl_lenl, bl_tup, bl_int, bl_bool, bl_abs, bl_min, bl_max, ix_t, ix_l, at_0, at_1, at_2, at_3, at_4, isiD, dbl_eq, ite_okb, ite_okB, ite_tb, ite_bt, ite_ft, ite_fx, List.length_cons, List.length_nil, List.map_cons, List.map_nil, List.length_map, List.cons_append, List.nil_append, List.append_nil, Nat.reduceAdd, Nat.reduceSub, Nat.reduceLeDiff, Nat.reduceLT, Nat.zero_add, List.reduceReplicate, List.getElem?_cons_zero, List.getElem?_cons_succ, List.set_cons_zero, List.set_cons_succ, List.zip_cons_cons, List.zip_nil_left, List.zip_nil_right, List.foldl_cons, List.foldl_nil, List.all_cons, List.all_nil, List.take_length, and_true, true_and, if_true, if_false, ite_true, ite_false, if_pos, ↓reduceIte, Bool.false_eq_true, Bool.not_true, Bool.not_false, Bool.true_and, Bool.and_true, Bool.false_and, Bool.and_false, Bool.false_or, Bool.or_false, Bool.true_or, Bool.or_true, Bool.not_not, decide_true, decide_false, bne_self_eq_false, Bool.bne_false, Bool.bne_true, and_self])
local macro_rules | `(tactic| simp_arith) => `(tactic| simp (disch := first | assumption | omega | rfl | decide) only [runF_mk, LIM_eq, fLK_s, fL_nil, apE_o, x_sti, e_glo, gloK_s, e_cav, cvK_f, kdK_s, kdL_s, e_kdc, newK_o, len_rng, initE_eq, fin_nx, fin_rt, fin_ex, fin_ite, bind_ok, bind_ex, bind_no, bind_ite, of_ok, of_ex, of_no, of_ite, seq_nx, seq_rt, seq_ex, seq_no, seq_ite, bd_d, bd_own, bd_p, bd_ex, bd_ite, lift_some, lift_none, lift_ite, map_some, map_none, opd_d, opd_own, opd_p, toD_d, toD_own, md_nil, md_d, md_own, ma_nil, ma_d, ma_own, ma_h, ma_f, ma_s, mo_nil, mo_d, mo_own, mo_p, e_var, v_own, v_d, v_h, v_f, v_s, e_cst, e_fnr, e_pow, e_bin, e_neg, negI, e_cmp, e_chn, chK_b, e_isn, nn_none, nn_bool, nn_int, nn_str, nn_tup, nn_list, nn_own, nn_p, e_isb, bk_b, bk_n, e_ands, e_ors, e_not, bK_b, e_ite, noP_d, noP_own, noP_ex, noP_ite, e_tup, e_lst, tupK_s, lstK_s, e_idx, ixK_d, ixK_own, ixK_p, ixK_h, ixK_s, memK_s, e_slo, e_shi, e_rev, e_call, clK_s, e_blt, bl2_s, bl2_d, bl2_own, bl2_p, blO_s, e_isi, e_sse, e_lrg, e_trg, e_cm1, cmK_ok, e_cm2, cmK2_ok, e_ler, e_tnot, tnK_b, tnK_i, x_frz, bi_addB, bi_subB, bl_strb, lerK_ok, lerK_ex, lerO_s, lerK_ite, s_nil, s_cons, a_one, a_cons, o_one, o_cons, t_nil, t_cons, tK_b, i_dat, datK_t, datK_l, datK_o, datK_p, i_rng, i_rng2, rng2K_i, rngK_i, i_enm, enm2_t, enm2_l, enm2_o, enm2_p, i_fns, bT_one, bT_onef, bT_tup, x_asg, setS_d, setS_o, setS_f, x_asgs, setK_s, sA_nil, sA_d, sA_o, x_unp, x_newh, appK_s, x_app, x_exp, x_retv, x_ret, rtK_d, rtK_o, x_retN, x_ifs, ifK_b, x_whl, x_fr, x_rai, x_raiv, raK_i, b_nil, b_cons, b_dct, dcK_s, dcO_ok, frz_e, frz_v, frz_ev, frz_r, frz_r2, frz_f, fz_eq, fzK_d, fzK_o, wipe_nil, wipe_cons, c_lt, c_le, c_gt, c_ge, c_eqi, c_nei, c_eqs, c_nes, c_eqb, c_neb, c_eqn, c_nen, c_eqtn, c_netn, bi_add, bi_sub, bi_addt, bi_addl, bi_adds, bl_lent, bl_lenl, bl_tup, bl_int, bl_bool, bl_abs, bl_min, bl_max, ix_t, ix_l, at_0, at_1, at_2, at_3, at_4, isiD, dbl_eq, ite_okb, ite_okB, ite_tb, ite_bt, ite_ft, ite_fx, List.length_cons, List.length_nil, List.map_cons, List.map_nil, List.length_map, List.cons_append, List.nil_append, List.append_nil, Nat.reduceAdd, Nat.reduceSub, Nat.reduceLeDiff, Nat.reduceLT, Nat.zero_add, List.reduceReplicate, List.getElem?_cons_zero, List.getElem?_cons_succ, List.set_cons_zero, List.set_cons_succ, List.zip_cons_cons, List.zip_nil_left, List.zip_nil_right, List.foldl_cons, List.foldl_nil, List.all_cons, List.all_nil, List.take_length, and_true, true_and, if_true, if_false, ite_true, ite_false, if_pos, ↓reduceIte, Bool.false_eq_true, Bool.not_true, Bool.not_false, Bool.true_and, Bool.and_true, Bool.false_and, Bool.and_false, Bool.false_or, Bool.or_false, Bool.true_or, Bool.or_true, Bool.not_not, decide_true, decide_false, bne_self_eq_false, Bool.bne_false, Bool.bne_true, and_self])
/-! ### loops -/
section
variable {b : EnvT → Mem → O} {m : Mem} {tg : Tg}
theorem fLg (E : Nat → EnvT) : ∀ (xs : List SV) (j : Nat), (∀ k (hk : k < xs.length), ∃ e', bindT tg xs[k] (E (j + k)) = some e' ∧ b e' m = .nx (E (j + k + 1)) m) → forL tg b xs (E j) m = .nx (E (j + xs.length)) m
  | [], j, _ => by rw [fL_nil]; rfl
  | x :: xs, j, h => by
    obtain ⟨e', h1, h2⟩ := h 0 (by simp)
    rw [fL_cons]
    simp only [Nat.add_zero] at h1 h2
    have h1 : bindT tg x (E j) = some e' := h1
    rw [h1, fLK_s, h2, seq_nx]
    rw [fLg E xs (j + 1) fun k hk => by
      obtain ⟨e'', h3, h4⟩ := h (k + 1) (by simp; omega)
      refine ⟨e'', ?_, ?_⟩
      · rw [show j + 1 + k = j + (k + 1) by omega]; exact h3
      · rw [show j + 1 + k = j + (k + 1) by omega]; exact h4]
    rw [List.length_cons, show j + 1 + xs.length = j + (xs.length + 1) by omega]
theorem fLr (E : Nat → EnvT) {n : Nat} (h : ∀ k < n, ∃ e', bindT tg (.d (.int (k : Nat))) (E k) = some e' ∧ b e' m = .nx (E (k + 1)) m) : forL tg b (rngD 0 n) (E 0) m = .nx (E n) m := by
  have := fLg (b := b) (m := m) (tg := tg) E (rngD 0 n) 0 fun k hk => by
    rw [len_rng] at hk
    obtain ⟨e', h1, h2⟩ := h k hk
    refine ⟨e', ?_, by rw [Nat.zero_add]; exact h2⟩
    rw [Nat.zero_add, ← h1]
    congr
    simp only [rngD, List.getElem_map, List.getElem_range, Int.zero_add]
  rw [len_rng, Nat.zero_add] at this
  exact this
def lpS : Nat → Option SV
  | 0 => none
  | k + 1 => some (.d (.int (k : Nat)))
end
/-! ### all_kinds -/
def kindsL : Nat → List (List Int)
  | 0 => [[]]
  | n + 1 => kindsL n ++ (kindsL n).map (· ++ [(n : Int)])
def allKinds (n : Nat) : List (List Int) := (kindsL n).tail
theorem kindsL_len : ∀ n, (kindsL n).length = 2 ^ n
  | 0 => rfl
  | n + 1 => by rw [kindsL, List.length_append, List.length_map, kindsL_len n]; omega
theorem kindsL_each : ∀ n, ∀ k ∈ kindsL n, k.length ≤ n
  | 0, k, h => by cases h with | head => exact Nat.le_refl _ | tail _ h => cases h
  | n + 1, k, h => by
    rw [kindsL, List.mem_append, List.mem_map] at h
    rcases h with h | ⟨x, h, rfl⟩
    · exact Nat.le_succ_of_le (kindsL_each n k h)
    · rw [List.length_append]; exact Nat.succ_le_succ (kindsL_each n x h)
theorem allKinds_each {n : Nat} {k : List Int} (h : k ∈ allKinds n) : k.length ≤ n := kindsL_each n k (List.mem_of_mem_tail h)
theorem allKinds_len {n : Nat} : (allKinds n).length = 2 ^ n - 1 := by unfold allKinds; rw [List.length_tail, kindsL_len]
theorem pow_le {n : Nat} (h : n ≤ 12) : 2 ^ n ≤ 4096 := Nat.pow_le_pow_right (n := 2) (by decide) h
section
variable {N : Nat} {m : Mem}
theorem lo1 {ds : Ds} : loD (.list ds) (.int 1) = some (.own ds.tail) := by
  unfold loD sIx; cases ds with
  | nil => rfl
  | cons d r => simp
theorem c_all_kinds {n : Nat} (h : 1 ≤ N) (hn : n ≤ 12) : C N 47 [.d (.int (n : Nat))] m = .ok (.own ((allKinds n).map eM)) m := by
  rw [C_unf t_all_kinds h, f_all_kinds]
  simp_arith
  have := fLr (b := exB glob (C (N - 1)) (Ss.cons (S.asg 1 (E.bin Bo.add (E.var 1) (E.cm1 (E.bin Bo.add (E.var 3) (E.tup (Es.cons (E.var 2) Es.nil))) (Tg.one 3) (It.dat (E.var 1)) [3] Es.nil))) Ss.nil)) (m := m) (tg := .one 2)
    (fun k => [some (.d (.int (n : Nat))), some (.own ((kindsL k).map eM)), lpS k, none]) (n := n) fun k hk => ⟨_, by simp [bindT]; rfl, by
      have hk' : 2 ^ k ≤ 4096 := pow_le (by omega)
      simp_arith [kindsL_len]
      rw [show List.map eM (kindsL k) = List.map (fun ks : List Int => PyData.tuple (ks.map .int)) (kindsL k) from rfl]
      rw [cL0 (fun ks => .tuple ((ks ++ [(k : Int)]).map .int)) (by simp) (fun y _ => by simp_arith) (fun y hy => by
        have hy' := kindsL_each k y hy
        simp_arith
        rw [List.map_append]; rfl)]
      simp_arith [kindsL_len]
      rw [kindsL, List.map_append, List.map_map]; rfl⟩
  rw [show Int.toNat (n : Int) = n by omega]
  rw [show ([some (SV.d (PyData.int ↑n)), some (SV.own [PyData.tuple []]), none, none] : EnvT) = (fun k => [some (.d (.int (n : Nat))), some (.own ((kindsL k).map eM)), lpS k, none]) 0 from rfl, this]
  simp_arith [lo1]
  rw [← List.map_tail]; rfl
theorem lo1t {d : D} {ds : Ds} : loD (.tuple (d :: ds)) (.int 1) = some (.d (.tuple ds)) := by
  unfold loD sIx; simp
end
/-! ### contrary -/
def Wd.neg : Wd → Wd
  | .same => .unlike | .unlike => .same | .covers => .bares | .bares => .covers
def W.neg (w : W) : W := ⟨w.wd.neg, w.a, w.b⟩
section
variable {N : Nat} {m : Mem}
theorem look_contrary {w : Wd} : (List.lookup w.s [((.ofString "same"), (.str (.ofString "unlike"))), ((.ofString "unlike"), (.str (.ofString "same"))), ((.ofString "covers"), (.str (.ofString "bares"))), ((.ofString "bares"), (.str (.ofString "covers")))] : Option D) = some (.str w.neg.s) := by
  cases w <;> rfl
theorem c_contrary {w : W} (h : 1 ≤ N) : C N 54 [.d (eW w)] m = .ok (.d (eW w.neg)) m := by
  rw [C_unf t_contrary h, f_contrary, eW]
  simp_arith [k_CONTRARY, look_contrary, lo1t]
  rfl
end
end Tn

set_option maxRecDepth 100000
namespace Tn
open PySem
local macro_rules | `(tactic| simp_arith [$ls,*]) => `(tactic| simp (disch := first | assumption | omega | rfl | decide) only [$ls,*, runF_mk, LIM_eq, fLK_s, fL_nil, apE_o, x_sti, e_glo, gloK_s, e_cav, cvK_f, kdK_s, kdL_s, e_kdc, newK_o, len_rng, initE_eq, fin_nx, fin_rt, fin_ex, fin_ite, bind_ok, bind_ex, bind_no, bind_ite, of_ok, of_ex, of_no, of_ite, seq_nx, seq_rt, seq_ex, seq_no, seq_ite, bd_d, bd_own, bd_p, bd_ex, bd_ite, lift_some, lift_none, lift_ite, map_some, map_none, opd_d, opd_own, opd_p, toD_d, toD_own, md_nil, md_d, md_own, ma_nil, ma_d, ma_own, ma_h, ma_f, ma_s, mo_nil, mo_d, mo_own, mo_p, e_var, v_own, v_d, v_h, v_f, v_s, e_cst, e_fnr, e_pow, e_bin, e_neg, negI, e_cmp, e_chn, chK_b, e_isn, nn_none, nn_bool, nn_int, nn_str, nn_tup, nn_list, nn_own, nn_p, e_isb, bk_b, bk_n, e_ands, e_ors, e_not, bK_b, e_ite, noP_d, noP_own, noP_ex, noP_ite, e_tup, e_lst, tupK_s, lstK_s, e_idx, ixK_d, ixK_own, ixK_p, ixK_h, ixK_s, memK_s, e_slo, e_shi, e_rev, e_call, clK_s, e_blt, bl2_s, bl2_d, bl2_own, bl2_p, blO_s, e_isi, e_sse, e_lrg, e_trg, e_cm1, cmK_ok, e_cm2, cmK2_ok, e_ler, e_tnot, tnK_b, tnK_i, x_frz, bi_addB, bi_subB, bl_strb, lerK_ok, lerK_ex, lerO_s, lerK_ite, s_nil, s_cons, a_one, a_cons, o_one, o_cons, t_nil, t_cons, tK_b, i_dat, datK_t, datK_l, datK_o, datK_p, i_rng, i_rng2, rng2K_i, rngK_i, i_enm, enm2_t, enm2_l, enm2_o, enm2_p, i_fns, bT_one, bT_onef, bT_tup, x_asg, setS_d, setS_o, setS_f, x_asgs, setK_s, sA_nil, sA_d, sA_o, x_unp, x_newh, appK_s, x_app, x_exp, x_retv, x_ret, rtK_d, rtK_o, x_retN, x_ifs, ifK_b, x_whl, x_fr, x_rai, x_raiv, raK_i, b_nil, b_cons, b_dct, dcK_s, dcO_ok, frz_e, frz_v, frz_ev, frz_r, frz_r2, frz_f, fz_eq, fzK_d, fzK_o, wipe_nil, wipe_cons, c_lt, c_le, c_gt, c_ge, c_eqi, c_nei, c_eqs, c_nes, c_eqb, c_neb, c_eqn, c_nen, c_eqtn, c_netn, bi_add, bi_sub, bi_addt, bi_addl, bi_adds, bl_lent, bl_lenl, bl_tup, bl_int, bl_bool, bl_abs, bl_min, bl_max, ix_t, ix_l, at_0, at_1, at_2, at_3, at_4, isiD, dbl_eq, ite_okb, ite_okB, ite_tb, ite_bt, ite_ft, ite_fx, List.length_cons, List.length_nil, List.map_cons, List.map_nil, List.length_map, List.cons_append, List.nil_append, List.append_nil, Nat.reduceAdd, Nat.reduceSub, Nat.reduceLeDiff, Nat.reduceLT, Nat.zero_add, List.reduceReplicate, List.getElem?_cons_zero, List.getElem?_cons_succ, List.set_cons_zero, List.set_cons_succ, List.zip_cons_cons, List.zip_nil_left, List.zip_nil_right, List.foldl_cons, List.foldl_nil, List.all_cons, List.all_nil, List.take_length, and_true, true_and, if_true, if_false, ite_true, ite_false, if_pos, ↓reduceIte, Bool.false_eq_true, Bool.not_true, Bool.not_false, Bool.true_and, Bool.and_true, Bool.false_and, Bool.and_false, Bool.false_or, Bool.or_false, Bool.true_or, Bool.or_true, Bool.not_not, decide_true, decide_false, bne_self_eq_false, Bool.bne_false, Bool.bne_true, and_self])
local macro_rules | `(tactic| simp_arith) => `(tactic| simp (disch := first | assumption | omega | rfl | decide) only [runF_mk, LIM_eq, fLK_s, fL_nil, apE_o, x_sti, e_glo, gloK_s, e_cav, cvK_f, kdK_s, kdL_s, e_kdc, newK_o, len_rng, initE_eq, fin_nx, fin_rt, fin_ex, fin_ite, bind_ok, bind_ex, bind_no, bind_ite, of_ok, of_ex, of_no, of_ite, seq_nx, seq_rt, seq_ex, seq_no, seq_ite, bd_d, bd_own, bd_p, bd_ex, bd_ite, lift_some, lift_none, lift_ite, map_some, map_none, opd_d, opd_own, opd_p, toD_d, toD_own, md_nil, md_d, md_own, ma_nil, ma_d, ma_own, ma_h, ma_f, ma_s, mo_nil, mo_d, mo_own, mo_p, e_var, v_own, v_d, v_h, v_f, v_s, e_cst, e_fnr, e_pow, e_bin, e_neg, negI, e_cmp, e_chn, chK_b, e_isn, nn_none, nn_bool, nn_int, nn_str, nn_tup, nn_list, nn_own, nn_p, e_isb, bk_b, bk_n, e_ands, e_ors, e_not, bK_b, e_ite, noP_d, noP_own, noP_ex, noP_ite, e_tup, e_lst, tupK_s, lstK_s, e_idx, ixK_d, ixK_own, ixK_p, ixK_h, ixK_s, memK_s, e_slo, e_shi, e_rev, e_call, clK_s, e_blt, bl2_s, bl2_d, bl2_own, bl2_p, blO_s, e_isi, e_sse, e_lrg, e_trg, e_cm1, cmK_ok, e_cm2, cmK2_ok, e_ler, e_tnot, tnK_b, tnK_i, x_frz, bi_addB, bi_subB, bl_strb, lerK_ok, lerK_ex, lerO_s, lerK_ite, s_nil, s_cons, a_one, a_cons, o_one, o_cons, t_nil, t_cons, tK_b, i_dat, datK_t, datK_l, datK_o, datK_p, i_rng, i_rng2, rng2K_i, rngK_i, i_enm, enm2_t, enm2_l, enm2_o, enm2_p, i_fns, bT_one, bT_onef, bT_tup, x_asg, setS_d, setS_o, setS_f, x_asgs, setK_s, sA_nil, sA_d, sA_o, x_unp, x_newh, appK_s, x_app, x_exp, x_retv, x_ret, rtK_d, rtK_o, x_retN, x_ifs, ifK_b, x_whl, x_fr, x_rai, x_raiv, raK_i, b_nil, b_cons, b_dct, dcK_s, dcO_ok, frz_e, frz_v, frz_ev, frz_r, frz_r2, frz_f, fz_eq, fzK_d, fzK_o, wipe_nil, wipe_cons, c_lt, c_le, c_gt, c_ge, c_eqi, c_nei, c_eqs, c_nes, c_eqb, c_neb, c_eqn, c_nen, c_eqtn, c_netn, bi_add, bi_sub, bi_addt, bi_addl, bi_adds, bl_lent, bl_lenl, bl_tup, bl_int, bl_bool, bl_abs, bl_min, bl_max, ix_t, ix_l, at_0, at_1, at_2, at_3, at_4, isiD, dbl_eq, ite_okb, ite_okB, ite_tb, ite_bt, ite_ft, ite_fx, List.length_cons, List.length_nil, List.map_cons, List.map_nil, List.length_map, List.cons_append, List.nil_append, List.append_nil, Nat.reduceAdd, Nat.reduceSub, Nat.reduceLeDiff, Nat.reduceLT, Nat.zero_add, List.reduceReplicate, List.getElem?_cons_zero, List.getElem?_cons_succ, List.set_cons_zero, List.set_cons_succ, List.zip_cons_cons, List.zip_nil_left, List.zip_nil_right, List.foldl_cons, List.foldl_nil, List.all_cons, List.all_nil, List.take_length, and_true, true_and, if_true, if_false, ite_true, ite_false, if_pos, ↓reduceIte, Bool.false_eq_true, Bool.not_true, Bool.not_false, Bool.true_and, Bool.and_true, Bool.false_and, Bool.and_false, Bool.false_or, Bool.or_false, Bool.true_or, Bool.or_true, Bool.not_not, decide_true, decide_false, bne_self_eq_false, Bool.bne_false, Bool.bne_true, and_self])
/-! ### wishes within lists -/
theorem eqv_W {x y : W} : PyData.eqv (eW x) (eW y) = decide (x = y) := by
  unfold eW
  simp only [PyData.eqv, PyData.eqvAll, eqvA_int, str_beq]
  rcases x with ⟨w1, a1, b1⟩; rcases y with ⟨w2, a2, b2⟩
  have : decide (w1.s = w2.s) = decide (w1 = w2) := by cases w1 <;> cases w2 <;> decide
  dsimp only
  rw [this]
  by_cases h1 : w1 = w2 <;> by_cases h2 : a1 = a2 <;> by_cases h3 : b1 = b2 <;> simp [h1, h2, h3]
theorem dep_W {x : W} : (eW x).depth = 2 := by
  unfold eW
  simp [PyData.depth, PyData.depthAll, depA_int]
theorem depA_W {ws : List W} : PyData.depthAll (ws.map eW) ≤ 2 := by
  induction ws with
  | nil => simp [PyData.depthAll]
  | cons x r ih => rw [List.map_cons, PyData.depthAll, dep_W]; omega
theorem any_W {ws : List W} {w : W} : ((ws.map eW).any fun z => PyData.eqv z (eW w)) = decide (w ∈ ws) := by
  induction ws with
  | nil => rfl
  | cons x r ih =>
    rw [List.map_cons, List.any_cons, ih, eqv_W]
    by_cases h : w = x <;> simp [h, eq_comm]
theorem c_inW {ws : List W} {w : W} : cmpD .isin (eW w) (.list (ws.map eW)) = some (decide (w ∈ ws)) := by
  have := @depA_W ws
  unfold cmpD inD; dsimp only; rw [if_pos ⟨by rw [dep_W]; decide, by rw [PyData.depth]; omega⟩, any_W]
theorem c_ninW {ws : List W} {w : W} : cmpD .notin (eW w) (.list (ws.map eW)) = some (!decide (w ∈ ws)) := by
  have := @depA_W ws
  unfold cmpD inD; dsimp only; rw [if_pos ⟨by rw [dep_W]; decide, by rw [PyData.depth]; omega⟩, any_W]; rfl
/-! ### chosen -/
def isCalm (w : W) : Bool := decide (w.wd = .same) || decide (w.wd = .covers)
def calmKinds (n : Nat) (ws : List W) : List (List Int) := (allKinds n).filter fun k => !(ws.filter isCalm).any (partF k)
def chosenF (n : Nat) (ws : List W) : Option (List (List Int)) := (ws.filter fun w => !isCalm w).mapM fun w => (calmKinds n ws).find? fun k => partF k w
/-- wishes of few paints each -/
def WsOk (ws : List W) : Prop := ws.length ≤ 1000 ∧ ∀ w ∈ ws, w.a.length ≤ 1000 ∧ w.b.length ≤ 1000
theorem WsOk.cons {w : W} {ws : List W} (h : WsOk (w :: ws)) : WsOk ws := ⟨by have := h.1; simp at this; omega, fun x hx => h.2 x (.tail _ hx)⟩
theorem map_eM {ks : List (List Int)} : ks.map eM = ks.map fun k : List Int => PyData.tuple (k.map .int) := rfl
theorem filter_head {α : Type} {p : α → Bool} : ∀ {l : List α} {a : α}, l.find? p = some a → ∃ r, l.filter p = a :: r
  | [], a, h => by cases h
  | x :: l, a, h => by
    rw [List.find?_cons] at h
    split at h
    · rename_i q; cases h; exact ⟨_, List.filter_cons_of_pos q⟩
    · rename_i q; rw [List.filter_cons_of_neg (by rw [q]; decide)]; exact filter_head h
theorem filter_none {α : Type} {p : α → Bool} {l : List α} (h : l.find? p = none) : l.filter p = [] := by
  rw [List.filter_eq_nil_iff]; rw [List.find?_eq_none] at h; exact h
def chB : Ss := (.cons (.ifs (.cmp .notin (.var 3) (.var 2)) (.cons (.asg 7 (.cm1 (.var 5) (.one 5) (.dat (.var 4)) [5] (.cons (.call 49 (.cons (.var 5) (.cons (.var 3) .nil))) .nil))) (.cons (.ifs (.cmp .eq (.var 7) (.lst .nil)) (.cons (.ret (.cst .none)) .nil) .nil) (.cons (.app 6 (.idx (.var 7) (.cst (.int (0))))) .nil))) .nil) .nil)
section
variable {N : Nat} {m : Mem}
theorem chosen_loop (h : 2 ≤ N) {n : D} {all : List W} {ks : List (List Int)} (hk : ks.length ≤ 4096) {cl : List W} (s5 : Option SV) :
    ∀ (ws : List W) (acc : List (List Int)) (s3 s7 : Option SV), (∀ w ∈ ws, decide (w ∈ cl) = isCalm w) → WsOk ws → acc.length + ws.length ≤ 5000 →
      ∃ t3 t5 t7, forL (.one 3) (exB glob (C N) chB) ((ws.map eW).map .d) [some (.d n), some (.d (.tuple (all.map eW))), some (.own (cl.map eW)), s3, some (.own (ks.map eM)), s5, some (.own (acc.map eM)), s7] m
        = (match (ws.filter fun w => !isCalm w).mapM fun w => ks.find? fun k => partF k w with
          | none => .rt (.d .none) m
          | some r => .nx [some (.d n), some (.d (.tuple (all.map eW))), some (.own (cl.map eW)), t3, some (.own (ks.map eM)), t5, some (.own ((acc ++ r).map eM)), t7] m)
  | [], acc, s3, s7, hc, hw, hl => ⟨s3, s5, s7, by simp [forL]⟩
  | w :: ws, acc, s3, s7, hc, hw, hl => by
    have hw1 := hw.2 w (.head _)
    simp only [List.length_cons] at hl
    rw [List.map_cons, List.map_cons, fL_cons]
    simp_arith
    have hcw := hc w (.head _)
    unfold chB
    simp_arith [c_ninW, hcw]
    cases hq : isCalm w with
    | true =>
      simp_arith
      rw [List.filter_cons_of_neg (by rw [hq]; decide)]
      exact chosen_loop h hk s5 ws acc _ _ (fun x hx => hc x (.tail _ hx)) hw.cons (by omega)
    | false =>
      rw [List.filter_cons_of_pos (by rw [hq]; rfl)]
      simp_arith [map_eM]
      rw [cL1 (fun k => partF k w) eM (by simp) (fun k _ => by simp_arith [c_is_parting]) (fun k _ _ => by simp_arith; rfl)]
      simp_arith [isEmpty_map]
      cases hf : ks.find? fun k => partF k w with
      | none =>
        rw [filter_none hf]
        refine ⟨none, none, none, ?_⟩
        simp_arith [List.isEmpty_nil]
        rw [List.mapM_cons, hf]
        rfl
      | some k =>
        obtain ⟨r, hr⟩ := filter_head hf
        rw [hr]
        simp_arith [List.isEmpty_cons]
        have := chosen_loop h (n := n) (all := all) hk (cl := cl) s5 ws (acc ++ [k]) (some (SV.d (eW w))) (some (.own (eM k :: r.map eM))) (fun x hx => hc x (.tail _ hx)) hw.cons (by rw [List.length_append]; simp; omega)
        simp only [List.map_append, List.map_cons, List.map_nil, map_eM] at this
        unfold chB at this
        unfold eM at this ⊢
        obtain ⟨t3, t5, t7, this⟩ := this
        refine ⟨t3, t5, t7, ?_⟩
        rw [this]
        rw [List.mapM_cons, hf]
        show _ = (match (List.mapM (fun w => List.find? (fun k => partF k w) ks) (List.filter (fun w => !isCalm w) ws) >>= fun z => some (k :: z)) with
          | none => _
          | some r => _)
        cases List.mapM (fun w => List.find? (fun k => partF k w) ks) (List.filter (fun w => !isCalm w) ws) with
        | none => rfl
        | some z =>
          show O.nx _ m = O.nx _ m
          simp only [List.map_append, List.map_cons, List.append_assoc, List.cons_append, List.nil_append]
def chRes (o : Option (List (List Int))) : SV := match o with
  | none => .d .none
  | some r => .own (r.map eM)
theorem c_chosen {n : Nat} {ws : List W} (h : 3 ≤ N) (hn : n ≤ 12) (hw : WsOk ws) : C N 50 [.d (.int (n : Nat)), .d (.tuple (ws.map eW))] m = .ok (chRes (chosenF n ws)) m := by
  have hp := pow_le hn
  have hw1 := hw.1
  rw [C_unf t_chosen (by omega), f_chosen]
  simp_arith
  rw [cL1 isCalm eW (by simp) (fun w _ => by unfold eW; simp_arith [c_in2, wd_same, wd_covers]; rfl) (fun w _ _ => by simp_arith)]
  simp_arith [c_all_kinds, allKinds_len, map_eM]
  rw [cL1 (fun k => !(ws.filter isCalm).any (partF k)) eM (by simp) (fun k hk => by
      have := List.length_filter_le isCalm ws
      simp_arith
      rw [cL1 (partF k) eW (by simp) (fun w hw2 => by
        have hw3 := hw.2 w (List.mem_filter.mp hw2).1
        simp_arith [c_is_parting]) (fun w _ _ => by simp_arith)]
      simp_arith [isEmpty_map, isEmpty_filter]) (fun k _ _ => by simp_arith; rfl)]
  simp_arith
  rw [show List.filter (fun k => !(ws.filter isCalm).any (partF k)) (allKinds n) = calmKinds n ws from rfl]
  have hl : (calmKinds n ws).length ≤ 4096 := by
    have := List.length_filter_le (fun k => !(ws.filter isCalm).any (partF k)) (allKinds n)
    rw [allKinds_len] at this
    unfold calmKinds; omega
  obtain ⟨t3, t5, t7, e⟩ := chosen_loop (m := m) (N := N - 1) (by omega) (n := .int (n : Nat)) (all := ws) hl (cl := ws.filter isCalm) none ws [] none none (fun w hw2 => by
    simp [List.mem_filter, hw2]) hw (by simp; omega)
  unfold chB at e
  rw [List.map_nil] at e
  rw [e]
  unfold chosenF chRes
  cases List.mapM (fun w => List.find? (fun k => partF k w) (calmKinds n ws)) (List.filter (fun w => !isCalm w) ws) with
  | none => simp_arith
  | some r => simp_arith
def canF (n : Nat) (ws : List W) : Bool := (chosenF n ws).isSome
theorem c_can_be {n : Nat} {ws : List W} (h : 4 ≤ N) (hn : n ≤ 12) (hw : WsOk ws) : C N 55 [.d (.int (n : Nat)), .d (.tuple (ws.map eW))] m = .ok (.d (.bool (canF n ws))) m := by
  rw [C_unf t_can_be (by omega), f_can_be]
  simp_arith [c_chosen]
  unfold canF chRes
  cases chosenF n ws <;> simp_arith [Option.isSome]
def huesOf (n : Nat) (ks : List (List Int)) : List (List Int) := (List.range n).map fun (p : Nat) => ((List.range ks.length).filter fun at_ => (ks.getD at_ []).contains (p : Int)).map fun i : Nat => (i : Int)
def huesF (n : Nat) (ws : List W) : Option (List (List Int)) := (chosenF n ws).map (huesOf n)
theorem chosen_len {n : Nat} {ws : List W} {r : List (List Int)} (h : chosenF n ws = some r) : r.length ≤ ws.length := by
  unfold chosenF at h
  have : r.length = (ws.filter fun w => !isCalm w).length := by
    revert r
    induction (ws.filter fun w => !isCalm w) with
    | nil => intro r h; cases h; rfl
    | cons x l ih =>
      intro r h
      rw [List.mapM_cons] at h
      cases h1 : List.find? (fun k => partF k x) (calmKinds n ws) with
      | none => rw [h1] at h; cases h
      | some k =>
        rw [h1] at h
        cases h2 : List.mapM (fun w => List.find? (fun k => partF k w) (calmKinds n ws)) l with
        | none => rw [h2] at h; cases h
        | some z => rw [h2] at h; cases h; simp [ih h2]
  rw [this]; exact List.length_filter_le _ _
theorem c_found_hues {n : Nat} {ws : List W} (h : 4 ≤ N) (hn : n ≤ 12) (hw : WsOk ws) : C N 51 [.d (.int (n : Nat)), .d (.tuple (ws.map eW))] m = .ok (.d (match huesF n ws with | none => .none | some r => .tuple (r.map eM))) m := by
  have hw1 := hw.1
  rw [C_unf t_found_hues (by omega), f_found_hues]
  simp_arith [c_chosen]
  unfold huesF chRes
  cases hc : chosenF n ws with
  | none => simp_arith; try rfl
  | some r =>
    have hl := chosen_len hc
    simp_arith
    rw [show Int.toNat (n : Int) = n by omega]
    rw [cLr (fun _ => true) (fun p => eM (((List.range r.length).filter fun a => (r.getD a []).contains (p : Int)).map fun i : Nat => (i : Int))) (by simp) (fun p _ => by simp_arith) (fun p hp _ => by
      simp_arith
      rw [show Int.toNat ((List.length r : Nat) : Int) = r.length by omega]
      rw [cLr (fun a => (r.getD a []).contains (p : Int)) (fun a => .int (a : Nat)) (by simp) (fun a ha => by
        have : (r.map eM)[a]? = some (eM (r.getD a [])) := by
          rw [List.getElem?_map, List.getD_eq_getElem?_getD, List.getElem?_eq_getElem ha]; rfl
        simp_arith [at_nat, this]
        unfold eM
        simp_arith [c_inI]
        rw [List.contains_eq_mem]) (fun a _ _ => by simp_arith)]
      simp_arith
      unfold eM
      rw [List.map_map]; rfl)]
    simp_arith
    rw [List.filter_eq_self.mpr (fun _ _ => rfl)]
    unfold huesOf
    simp only [List.map_map]; rfl
end
end Tn

set_option maxRecDepth 100000
namespace Tn
open PySem
local macro_rules | `(tactic| simp_arith [$ls,*]) => `(tactic| simp (disch := first | assumption | omega | rfl | decide) only [$ls,*, runF_mk, LIM_eq, fLK_s, fL_nil, apE_o, x_sti, e_glo, gloK_s, e_cav, cvK_f, kdK_s, kdL_s, e_kdc, newK_o, len_rng, initE_eq, fin_nx, fin_rt, fin_ex, fin_ite, bind_ok, bind_ex, bind_no, bind_ite, of_ok, of_ex, of_no, of_ite, seq_nx, seq_rt, seq_ex, seq_no, seq_ite, bd_d, bd_own, bd_p, bd_ex, bd_ite, lift_some, lift_none, lift_ite, map_some, map_none, opd_d, opd_own, opd_p, toD_d, toD_own, md_nil, md_d, md_own, ma_nil, ma_d, ma_own, ma_h, ma_f, ma_s, mo_nil, mo_d, mo_own, mo_p, e_var, v_own, v_d, v_h, v_f, v_s, e_cst, e_fnr, e_pow, e_bin, e_neg, negI, e_cmp, e_chn, chK_b, e_isn, nn_none, nn_bool, nn_int, nn_str, nn_tup, nn_list, nn_own, nn_p, e_isb, bk_b, bk_n, e_ands, e_ors, e_not, bK_b, e_ite, noP_d, noP_own, noP_ex, noP_ite, e_tup, e_lst, tupK_s, lstK_s, e_idx, ixK_d, ixK_own, ixK_p, ixK_h, ixK_s, memK_s, e_slo, e_shi, e_rev, e_call, clK_s, e_blt, bl2_s, bl2_d, bl2_own, bl2_p, blO_s, e_isi, e_sse, e_lrg, e_trg, e_cm1, cmK_ok, e_cm2, cmK2_ok, e_ler, e_tnot, tnK_b, tnK_i, x_frz, bi_addB, bi_subB, bl_strb, lerK_ok, lerK_ex, lerO_s, lerK_ite, s_nil, s_cons, a_one, a_cons, o_one, o_cons, t_nil, t_cons, tK_b, i_dat, datK_t, datK_l, datK_o, datK_p, i_rng, i_rng2, rng2K_i, rngK_i, i_enm, enm2_t, enm2_l, enm2_o, enm2_p, i_fns, bT_one, bT_onef, bT_tup, x_asg, setS_d, setS_o, setS_f, x_asgs, setK_s, sA_nil, sA_d, sA_o, x_unp, x_newh, appK_s, x_app, x_exp, x_retv, x_ret, rtK_d, rtK_o, x_retN, x_ifs, ifK_b, x_whl, x_fr, x_rai, x_raiv, raK_i, b_nil, b_cons, b_dct, dcK_s, dcO_ok, frz_e, frz_v, frz_ev, frz_r, frz_r2, frz_f, fz_eq, fzK_d, fzK_o, wipe_nil, wipe_cons, c_lt, c_le, c_gt, c_ge, c_eqi, c_nei, c_eqs, c_nes, c_eqb, c_neb, c_eqn, c_nen, c_eqtn, c_netn, bi_add, bi_sub, bi_addt, bi_addl, bi_adds, bl_lent, bl_lenl, bl_tup, bl_int, bl_bool, bl_abs, bl_min, bl_max, ix_t, ix_l, at_0, at_1, at_2, at_3, at_4, isiD, dbl_eq, ite_okb, ite_okB, ite_tb, ite_bt, ite_ft, ite_fx, List.length_cons, List.length_nil, List.map_cons, List.map_nil, List.length_map, List.cons_append, List.nil_append, List.append_nil, Nat.reduceAdd, Nat.reduceSub, Nat.reduceLeDiff, Nat.reduceLT, Nat.zero_add, List.reduceReplicate, List.getElem?_cons_zero, List.getElem?_cons_succ, List.set_cons_zero, List.set_cons_succ, List.zip_cons_cons, List.zip_nil_left, List.zip_nil_right, List.foldl_cons, List.foldl_nil, List.all_cons, List.all_nil, List.take_length, and_true, true_and, if_true, if_false, ite_true, ite_false, if_pos, ↓reduceIte, Bool.false_eq_true, Bool.not_true, Bool.not_false, Bool.true_and, Bool.and_true, Bool.false_and, Bool.and_false, Bool.false_or, Bool.or_false, Bool.true_or, Bool.or_true, Bool.not_not, decide_true, decide_false, bne_self_eq_false, Bool.bne_false, Bool.bne_true, and_self])
local macro_rules | `(tactic| simp_arith) => `(tactic| simp (disch := first | assumption | omega | rfl | decide) only [runF_mk, LIM_eq, fLK_s, fL_nil, apE_o, x_sti, e_glo, gloK_s, e_cav, cvK_f, kdK_s, kdL_s, e_kdc, newK_o, len_rng, initE_eq, fin_nx, fin_rt, fin_ex, fin_ite, bind_ok, bind_ex, bind_no, bind_ite, of_ok, of_ex, of_no, of_ite, seq_nx, seq_rt, seq_ex, seq_no, seq_ite, bd_d, bd_own, bd_p, bd_ex, bd_ite, lift_some, lift_none, lift_ite, map_some, map_none, opd_d, opd_own, opd_p, toD_d, toD_own, md_nil, md_d, md_own, ma_nil, ma_d, ma_own, ma_h, ma_f, ma_s, mo_nil, mo_d, mo_own, mo_p, e_var, v_own, v_d, v_h, v_f, v_s, e_cst, e_fnr, e_pow, e_bin, e_neg, negI, e_cmp, e_chn, chK_b, e_isn, nn_none, nn_bool, nn_int, nn_str, nn_tup, nn_list, nn_own, nn_p, e_isb, bk_b, bk_n, e_ands, e_ors, e_not, bK_b, e_ite, noP_d, noP_own, noP_ex, noP_ite, e_tup, e_lst, tupK_s, lstK_s, e_idx, ixK_d, ixK_own, ixK_p, ixK_h, ixK_s, memK_s, e_slo, e_shi, e_rev, e_call, clK_s, e_blt, bl2_s, bl2_d, bl2_own, bl2_p, blO_s, e_isi, e_sse, e_lrg, e_trg, e_cm1, cmK_ok, e_cm2, cmK2_ok, e_ler, e_tnot, tnK_b, tnK_i, x_frz, bi_addB, bi_subB, bl_strb, lerK_ok, lerK_ex, lerO_s, lerK_ite, s_nil, s_cons, a_one, a_cons, o_one, o_cons, t_nil, t_cons, tK_b, i_dat, datK_t, datK_l, datK_o, datK_p, i_rng, i_rng2, rng2K_i, rngK_i, i_enm, enm2_t, enm2_l, enm2_o, enm2_p, i_fns, bT_one, bT_onef, bT_tup, x_asg, setS_d, setS_o, setS_f, x_asgs, setK_s, sA_nil, sA_d, sA_o, x_unp, x_newh, appK_s, x_app, x_exp, x_retv, x_ret, rtK_d, rtK_o, x_retN, x_ifs, ifK_b, x_whl, x_fr, x_rai, x_raiv, raK_i, b_nil, b_cons, b_dct, dcK_s, dcO_ok, frz_e, frz_v, frz_ev, frz_r, frz_r2, frz_f, fz_eq, fzK_d, fzK_o, wipe_nil, wipe_cons, c_lt, c_le, c_gt, c_ge, c_eqi, c_nei, c_eqs, c_nes, c_eqb, c_neb, c_eqn, c_nen, c_eqtn, c_netn, bi_add, bi_sub, bi_addt, bi_addl, bi_adds, bl_lent, bl_lenl, bl_tup, bl_int, bl_bool, bl_abs, bl_min, bl_max, ix_t, ix_l, at_0, at_1, at_2, at_3, at_4, isiD, dbl_eq, ite_okb, ite_okB, ite_tb, ite_bt, ite_ft, ite_fx, List.length_cons, List.length_nil, List.map_cons, List.map_nil, List.length_map, List.cons_append, List.nil_append, List.append_nil, Nat.reduceAdd, Nat.reduceSub, Nat.reduceLeDiff, Nat.reduceLT, Nat.zero_add, List.reduceReplicate, List.getElem?_cons_zero, List.getElem?_cons_succ, List.set_cons_zero, List.set_cons_succ, List.zip_cons_cons, List.zip_nil_left, List.zip_nil_right, List.foldl_cons, List.foldl_nil, List.all_cons, List.all_nil, List.take_length, and_true, true_and, if_true, if_false, ite_true, ite_false, if_pos, ↓reduceIte, Bool.false_eq_true, Bool.not_true, Bool.not_false, Bool.true_and, Bool.and_true, Bool.false_and, Bool.and_false, Bool.false_or, Bool.or_false, Bool.true_or, Bool.or_true, Bool.not_not, decide_true, decide_false, bne_self_eq_false, Bool.bne_false, Bool.bne_true, and_self])
/-! ### sizes -/
mutual
def Sm : D → Prop
  | .tuple ds => ds.length ≤ 1000 ∧ SmAll ds
  | .list ds => ds.length ≤ 1000 ∧ SmAll ds
  | .dict _ => False
  | .none => True
  | .bool _ => True
  | .int _ => True
  | .str _ => True
def SmAll : Ds → Prop
  | [] => True
  | d :: r => Sm d ∧ SmAll r
end
theorem SmAll_iff {ds : Ds} : SmAll ds ↔ ∀ d ∈ ds, Sm d := by
  induction ds with
  | nil => simp [SmAll]
  | cons d r ih => simp [SmAll, ih]
theorem Sm_t {ds : Ds} : Sm (.tuple ds) ↔ ds.length ≤ 1000 ∧ ∀ d ∈ ds, Sm d := by rw [Sm, SmAll_iff]
/-! ### books -/
def isWh (v : D) (lo hi : Int) : Bool := match v with
  | .int i => decide (lo ≤ i) && decide (i ≤ hi)
  | _ => false
section
variable {N : Nat} {m : Mem}
theorem c_is_whole {v : D} {lo hi : Int} (h : 1 ≤ N) : C N 0 [.d v, .d (.int lo), .d (.int hi)] m = .ok (.d (.bool (isWh v lo hi))) m := by
  rw [C_unf t_is_whole h, f_is_whole]
  cases v <;> (simp_arith; try rfl)
end
def riseI : List Int → Bool
  | [] => true
  | [_] => true
  | x :: y :: r => decide (x < y) && riseI (y :: r)
def isRise (v : D) (most : Int) : Bool := match v with
  | .tuple ds => match intsOf ds with
    | some ns => ns.all (fun i => decide (0 ≤ i) && decide (i ≤ most)) && riseI ns
    | none => false
  | _ => false
theorem intsOf_map : ∀ {ns : List Int}, intsOf (ns.map .int) = some ns
  | [] => rfl
  | n :: r => by rw [List.map_cons, intsOf, intsOf_map]; rfl
theorem intsOf_some : ∀ {ds : Ds} {ns : List Int}, intsOf ds = some ns → ds = ns.map .int
  | [], ns, h => by cases h; rfl
  | d :: r, ns, h => by
    cases d with
    | int i =>
      rw [intsOf] at h
      cases q : intsOf r with
      | none => rw [q] at h; cases h
      | some z => rw [q] at h; cases h; rw [intsOf_some q]; rfl
    | _ => cases h
theorem intsOf_wh {most : Int} : ∀ {ds : Ds}, ds.any (fun d => !isWh d 0 most) = !(match intsOf ds with | some ns => ns.all (fun i => decide (0 ≤ i) && decide (i ≤ most)) | none => false)
  | [] => rfl
  | d :: r => by
    rw [List.any_cons, intsOf_wh (ds := r)]
    cases d with
    | int i =>
      rw [intsOf]
      cases q : intsOf r with
      | none => simp
      | some z => simp [isWh]
    | _ => simp [isWh, intsOf]
theorem riseI_iff : ∀ {ns : List Int}, riseI ns = (List.range (ns.length - 1)).all fun k => decide (ns.getD k 0 < ns.getD (k + 1) 0)
  | [] => rfl
  | [_] => rfl
  | x :: y :: r => by
    rw [riseI, riseI_iff (ns := y :: r)]
    rw [show (x :: y :: r).length - 1 = ((y :: r).length - 1) + 1 by simp]
    rw [List.range_succ_eq_map, List.all_cons, List.all_map]
    congr 1
theorem isEmpty_filt {α : Type} {p : α → Bool} {l : List α} : (l.filter p).isEmpty = l.all fun x => !p x := by
  rw [isEmpty_filter, List.not_any_eq_all_not]
section
variable {N : Nat} {m : Mem}
theorem c_is_rising {v : D} {most : Int} (h : 2 ≤ N) (hv : Sm v) : C N 1 [.d v, .d (.int most)] m = .ok (.d (.bool (isRise v most))) m := by
  rw [C_unf t_is_rising (by omega), f_is_rising]
  cases v with
  | tuple ds =>
    rw [Sm_t] at hv
    have hl := hv.1
    simp_arith
    rw [show List.map SV.d ds = List.map SV.d (ds.map id) by rw [List.map_id]]
    rw [cL1 (fun d => !isWh d 0 most) id (by simp) (fun d _ => by simp_arith [c_is_whole, id_eq]) (fun d _ _ => by simp_arith [id_eq])]
    simp_arith [List.map_id, isEmpty_filter]
    unfold isRise
    rw [intsOf_wh]
    cases q : intsOf ds with
    | none => simp_arith [q]
    | some ns =>
      have hd := intsOf_some q
      subst hd
      simp only [List.length_map] at hl
      simp only [q, List.length_map]
      by_cases ha : ns.all (fun i => decide (0 ≤ i) && decide (i ≤ most)) = true
      case neg => rw [Bool.not_eq_true] at ha; simp_arith [ha]
      case pos =>
        simp_arith [ha]
        rw [show Int.toNat ((ns.length : Nat) - 1 : Int) = ns.length - 1 by omega]
        rw [cLr (fun k => decide (ns.getD (k + 1) 0 ≤ ns.getD k 0)) (fun k => .int (k : Nat)) (by simp) (fun k hk => by
          have e1 : at_ (ns.map PyData.int) (k : Int) = some (.int (ns.getD k 0)) := by
            rw [at_nat, List.getElem?_map, List.getD_eq_getElem?_getD, List.getElem?_eq_getElem (by omega)]; rfl
          have e2 : at_ (ns.map PyData.int) ((k : Int) + 1) = some (.int (ns.getD (k + 1) 0)) := by
            rw [show ((k : Int) + 1) = ((k + 1 : Nat) : Int) by omega, at_nat, List.getElem?_map, List.getD_eq_getElem?_getD, List.getElem?_eq_getElem (by omega)]; rfl
          simp_arith [e1, e2]) (fun k _ _ => by simp_arith)]
        simp_arith [isEmpty_map, isEmpty_filt]
        rw [riseI_iff]
        simp only [Int.not_le, ← decide_not]
  | _ => simp_arith; rfl
def isMix (many : Int) (v : D) : Bool := isRise v (many - 1) && match v with
  | .tuple [] => false
  | _ => true
theorem c_is_mixture {v : D} {many : Int} (h : 3 ≤ N) (hv : Sm v) : C N 2 [.d (.int many), .d v] m = .ok (.d (.bool (isMix many v))) m := by
  rw [C_unf t_is_mixture (by omega), f_is_mixture]
  unfold isMix
  cases v with
  | tuple ds =>
    simp_arith [c_is_rising]
    cases isRise (.tuple ds) (many - 1) <;> cases ds <;> rfl
  | _ => simp_arith [c_is_rising]; simp only [isRise]; rfl
def isFact (many : Int) : D → Bool
  | .tuple [.str w, a, b] => (decide (w = .ofString "same") || (decide (w = .ofString "covers") || decide (w = .ofString "unlike"))) && (isMix many a && isMix many b)
  | _ => false
theorem len3 {ds : Ds} : (decide ((ds.length : Int) = 3)) = match ds with | [_, _, _] => true | _ => false := by
  rcases ds with _ | ⟨a, _ | ⟨b, _ | ⟨c, _ | ⟨d, r⟩⟩⟩⟩ <;> simp
  omega
theorem len2 {ds : Ds} : (decide ((ds.length : Int) = 2)) = match ds with | [_, _] => true | _ => false := by
  rcases ds with _ | ⟨a, _ | ⟨b, _ | ⟨c, r⟩⟩⟩ <;> simp
  omega
theorem c_is_fact {v : D} {many : Int} (h : 4 ≤ N) (hv : Sm v) : C N 3 [.d (.int many), .d v] m = .ok (.d (.bool (isFact many v))) m := by
  rw [C_unf t_is_fact (by omega), f_is_fact]
  cases v with
  | tuple ds =>
    simp_arith [len3]
    rw [Sm_t] at hv
    rcases ds with _ | ⟨a, _ | ⟨b, _ | ⟨c, _ | ⟨d, r⟩⟩⟩⟩
    · simp_arith; rfl
    · simp_arith; cases a <;> rfl
    · simp_arith; cases a <;> rfl
    · have h1 := hv.2 b (by simp)
      have h2 := hv.2 c (by simp)
      simp_arith
      cases a with
      | str w => simp_arith [g_WORDS, c_in3, c_is_mixture]; rfl
      | _ => simp_arith; rfl
    · simp_arith; cases a <;> rfl
  | _ => simp_arith; rfl
def isBook : D → Bool
  | .tuple [.int n, .tuple gs] => (decide (2 ≤ n) && decide (n ≤ 6)) && (decide (gs.length ≤ 6) && gs.all (isFact n))
  | _ => false
theorem map_id_D {ds : Ds} : List.map SV.d ds = List.map SV.d (ds.map id) := by rw [List.map_id]
theorem c_has_book {v : D} (h : 5 ≤ N) (hv : Sm v) : C N 4 [.d v] m = .ok (.d (.bool (isBook v))) m := by
  rw [C_unf t_has_book (by omega), f_has_book]
  cases v with
  | tuple ds =>
    simp_arith [len2]
    rw [Sm_t] at hv
    rcases ds with _ | ⟨a, _ | ⟨b, _ | ⟨c, r⟩⟩⟩
    · simp_arith; rfl
    · simp_arith; cases a <;> rfl
    · have h2 := hv.2 b (by simp)
      simp_arith [c_is_whole]
      cases a with
      | int n =>
        cases b with
        | tuple gs =>
          rw [Sm_t] at h2
          have hl := h2.1
          simp_arith [isWh, g_MOST_FACTS]
          unfold isBook
          cases hc : (decide (2 ≤ n) && decide (n ≤ 6)) with
          | false => simp_arith [hc]
          | true =>
            by_cases hg : gs.length ≤ 6
            · have : ¬ ((6 : Int) < (gs.length : Nat)) := by omega
              simp_arith [this]
              rw [map_id_D, cL1 (fun d => !isFact n d) id (by simp) (fun d hd => by have := h2.2 d hd; simp_arith [c_is_fact, id_eq]) (fun d _ _ => by simp_arith [id_eq])]
              simp_arith [List.map_id, isEmpty_filt, hg, hc]
            · have : ((6 : Int) < (gs.length : Nat)) := by omega
              simp_arith [this, hg]
        | _ => simp_arith [isWh]; unfold isBook; cases (decide (2 ≤ n) && decide (n ≤ 6)) <;> (simp_arith; try rfl)
      | _ => simp_arith [isWh]; rfl
    · simp_arith; cases a <;> (try rfl); cases b <;> rfl
  | _ => simp_arith; rfl
theorem c_need_book {v : D} (h : 6 ≤ N) (hv : Sm v) : C N 6 [.d v] m = if isBook v = true then .ok (.d .none) m else .ex 0 none m := by
  rw [C_unf t_need_book (by omega), f_need_book]
  simp_arith [c_has_book]
  cases isBook v <;> simp_arith
theorem c_need_claim {n : Int} {gs v : D} (h : 7 ≤ N) (hb : Sm (.tuple [.int n, gs])) (hv : Sm v) : C N 34 [.d (.tuple [.int n, gs]), .d v] m = if isBook (.tuple [.int n, gs]) = true then (if isFact n v = true then .ok (.d .none) m else .ex 1 none m) else .ex 0 none m := by
  rw [C_unf t_need_claim (by omega), f_need_claim]
  simp_arith [c_need_book]
  cases isBook (.tuple [.int n, gs]) with
  | false => simp_arith
  | true => simp_arith [c_is_fact]; cases isFact n v <;> simp_arith
end
end Tn

set_option maxRecDepth 100000
namespace Tn
open PySem
local macro_rules | `(tactic| simp_arith [$ls,*]) => `(tactic| simp (disch := first | assumption | omega | rfl | decide) only [$ls,*, runF_mk, LIM_eq, fLK_s, fL_nil, apE_o, x_sti, e_glo, gloK_s, e_cav, cvK_f, kdK_s, kdL_s, e_kdc, newK_o, len_rng, initE_eq, fin_nx, fin_rt, fin_ex, fin_ite, bind_ok, bind_ex, bind_no, bind_ite, of_ok, of_ex, of_no, of_ite, seq_nx, seq_rt, seq_ex, seq_no, seq_ite, bd_d, bd_own, bd_p, bd_ex, bd_ite, lift_some, lift_none, lift_ite, map_some, map_none, opd_d, opd_own, opd_p, toD_d, toD_own, md_nil, md_d, md_own, ma_nil, ma_d, ma_own, ma_h, ma_f, ma_s, mo_nil, mo_d, mo_own, mo_p, e_var, v_own, v_d, v_h, v_f, v_s, e_cst, e_fnr, e_pow, e_bin, e_neg, negI, e_cmp, e_chn, chK_b, e_isn, nn_none, nn_bool, nn_int, nn_str, nn_tup, nn_list, nn_own, nn_p, e_isb, bk_b, bk_n, e_ands, e_ors, e_not, bK_b, e_ite, noP_d, noP_own, noP_ex, noP_ite, e_tup, e_lst, tupK_s, lstK_s, e_idx, ixK_d, ixK_own, ixK_p, ixK_h, ixK_s, memK_s, e_slo, e_shi, e_rev, e_call, clK_s, e_blt, bl2_s, bl2_d, bl2_own, bl2_p, blO_s, e_isi, e_sse, e_lrg, e_trg, e_cm1, cmK_ok, e_cm2, cmK2_ok, e_ler, e_tnot, tnK_b, tnK_i, x_frz, bi_addB, bi_subB, bl_strb, lerK_ok, lerK_ex, lerO_s, lerK_ite, s_nil, s_cons, a_one, a_cons, o_one, o_cons, t_nil, t_cons, tK_b, i_dat, datK_t, datK_l, datK_o, datK_p, i_rng, i_rng2, rng2K_i, rngK_i, i_enm, enm2_t, enm2_l, enm2_o, enm2_p, i_fns, bT_one, bT_onef, bT_tup, x_asg, setS_d, setS_o, setS_f, x_asgs, setK_s, sA_nil, sA_d, sA_o, x_unp, x_newh, appK_s, x_app, x_exp, x_retv, x_ret, rtK_d, rtK_o, x_retN, x_ifs, ifK_b, x_whl, x_fr, x_rai, x_raiv, raK_i, b_nil, b_cons, b_dct, dcK_s, dcO_ok, frz_e, frz_v, frz_ev, frz_r, frz_r2, frz_f, fz_eq, fzK_d, fzK_o, wipe_nil, wipe_cons, c_lt, c_le, c_gt, c_ge, c_eqi, c_nei, c_eqs, c_nes, c_eqb, c_neb, c_eqn, c_nen, c_eqtn, c_netn, bi_add, bi_sub, bi_addt, bi_addl, bi_adds, bl_lent, bl_lenl, bl_tup, bl_int, bl_bool, bl_abs, bl_min, bl_max, ix_t, ix_l, at_0, at_1, at_2, at_3, at_4, isiD, dbl_eq, ite_okb, ite_okB, ite_tb, ite_bt, ite_ft, ite_fx, List.length_cons, List.length_nil, List.map_cons, List.map_nil, List.length_map, List.cons_append, List.nil_append, List.append_nil, Nat.reduceAdd, Nat.reduceSub, Nat.reduceLeDiff, Nat.reduceLT, Nat.zero_add, List.reduceReplicate, List.getElem?_cons_zero, List.getElem?_cons_succ, List.set_cons_zero, List.set_cons_succ, List.zip_cons_cons, List.zip_nil_left, List.zip_nil_right, List.foldl_cons, List.foldl_nil, List.all_cons, List.all_nil, List.take_length, and_true, true_and, if_true, if_false, ite_true, ite_false, if_pos, ↓reduceIte, Bool.false_eq_true, Bool.not_true, Bool.not_false, Bool.true_and, Bool.and_true, Bool.false_and, Bool.and_false, Bool.false_or, Bool.or_false, Bool.true_or, Bool.or_true, Bool.not_not, decide_true, decide_false, bne_self_eq_false, Bool.bne_false, Bool.bne_true, and_self])
local macro_rules | `(tactic| simp_arith) => `(tactic| simp (disch := first | assumption | omega | rfl | decide) only [runF_mk, LIM_eq, fLK_s, fL_nil, apE_o, x_sti, e_glo, gloK_s, e_cav, cvK_f, kdK_s, kdL_s, e_kdc, newK_o, len_rng, initE_eq, fin_nx, fin_rt, fin_ex, fin_ite, bind_ok, bind_ex, bind_no, bind_ite, of_ok, of_ex, of_no, of_ite, seq_nx, seq_rt, seq_ex, seq_no, seq_ite, bd_d, bd_own, bd_p, bd_ex, bd_ite, lift_some, lift_none, lift_ite, map_some, map_none, opd_d, opd_own, opd_p, toD_d, toD_own, md_nil, md_d, md_own, ma_nil, ma_d, ma_own, ma_h, ma_f, ma_s, mo_nil, mo_d, mo_own, mo_p, e_var, v_own, v_d, v_h, v_f, v_s, e_cst, e_fnr, e_pow, e_bin, e_neg, negI, e_cmp, e_chn, chK_b, e_isn, nn_none, nn_bool, nn_int, nn_str, nn_tup, nn_list, nn_own, nn_p, e_isb, bk_b, bk_n, e_ands, e_ors, e_not, bK_b, e_ite, noP_d, noP_own, noP_ex, noP_ite, e_tup, e_lst, tupK_s, lstK_s, e_idx, ixK_d, ixK_own, ixK_p, ixK_h, ixK_s, memK_s, e_slo, e_shi, e_rev, e_call, clK_s, e_blt, bl2_s, bl2_d, bl2_own, bl2_p, blO_s, e_isi, e_sse, e_lrg, e_trg, e_cm1, cmK_ok, e_cm2, cmK2_ok, e_ler, e_tnot, tnK_b, tnK_i, x_frz, bi_addB, bi_subB, bl_strb, lerK_ok, lerK_ex, lerO_s, lerK_ite, s_nil, s_cons, a_one, a_cons, o_one, o_cons, t_nil, t_cons, tK_b, i_dat, datK_t, datK_l, datK_o, datK_p, i_rng, i_rng2, rng2K_i, rngK_i, i_enm, enm2_t, enm2_l, enm2_o, enm2_p, i_fns, bT_one, bT_onef, bT_tup, x_asg, setS_d, setS_o, setS_f, x_asgs, setK_s, sA_nil, sA_d, sA_o, x_unp, x_newh, appK_s, x_app, x_exp, x_retv, x_ret, rtK_d, rtK_o, x_retN, x_ifs, ifK_b, x_whl, x_fr, x_rai, x_raiv, raK_i, b_nil, b_cons, b_dct, dcK_s, dcO_ok, frz_e, frz_v, frz_ev, frz_r, frz_r2, frz_f, fz_eq, fzK_d, fzK_o, wipe_nil, wipe_cons, c_lt, c_le, c_gt, c_ge, c_eqi, c_nei, c_eqs, c_nes, c_eqb, c_neb, c_eqn, c_nen, c_eqtn, c_netn, bi_add, bi_sub, bi_addt, bi_addl, bi_adds, bl_lent, bl_lenl, bl_tup, bl_int, bl_bool, bl_abs, bl_min, bl_max, ix_t, ix_l, at_0, at_1, at_2, at_3, at_4, isiD, dbl_eq, ite_okb, ite_okB, ite_tb, ite_bt, ite_ft, ite_fx, List.length_cons, List.length_nil, List.map_cons, List.map_nil, List.length_map, List.cons_append, List.nil_append, List.append_nil, Nat.reduceAdd, Nat.reduceSub, Nat.reduceLeDiff, Nat.reduceLT, Nat.zero_add, List.reduceReplicate, List.getElem?_cons_zero, List.getElem?_cons_succ, List.set_cons_zero, List.set_cons_succ, List.zip_cons_cons, List.zip_nil_left, List.zip_nil_right, List.foldl_cons, List.foldl_nil, List.all_cons, List.all_nil, List.take_length, and_true, true_and, if_true, if_false, ite_true, ite_false, if_pos, ↓reduceIte, Bool.false_eq_true, Bool.not_true, Bool.not_false, Bool.true_and, Bool.and_true, Bool.false_and, Bool.and_false, Bool.false_or, Bool.or_false, Bool.true_or, Bool.or_true, Bool.not_not, decide_true, decide_false, bne_self_eq_false, Bool.bne_false, Bool.bne_true, and_self])
/-! ### mixtures -/
def hasAll (mx pt : List Int) : Bool := pt.all fun p => decide (p ∈ mx)
def joinF (a b : List Int) : List Int := sortI (dedI (a ++ b))
/-- ascending paints under n, perhaps none -/
def MixR (n : Nat) (l : List Int) : Prop := riseI l = true ∧ ∀ p ∈ l, 0 ≤ p ∧ p < (n : Int)
theorem riseI_cons {x : Int} : ∀ {l : List Int}, riseI (x :: l) = true ↔ (∀ y ∈ l, x < y) ∧ riseI l = true
  | [] => by simp [riseI]
  | y :: l => by
    rw [riseI, Bool.and_eq_true, decide_eq_true_eq]
    constructor
    · rintro ⟨h1, h2⟩
      refine ⟨fun z hz => ?_, h2⟩
      rcases List.mem_cons.mp hz with rfl | hz
      · exact h1
      · have := (riseI_cons (l := l)).mp h2
        have := this.1 z hz
        omega
    · rintro ⟨h1, h2⟩
      exact ⟨h1 y (.head _), h2⟩
theorem mem_insI {x y : Int} : ∀ {l : List Int}, y ∈ insI x l ↔ y = x ∨ y ∈ l
  | [] => by simp [insI]
  | z :: l => by
    rw [insI]; split
    · simp
    · simp only [List.mem_cons, mem_insI (l := l)]
      constructor
      · rintro (h | h | h)
        · exact .inr (.inl h)
        · exact .inl h
        · exact .inr (.inr h)
      · rintro (h | h | h)
        · exact .inr (.inl h)
        · exact .inl h
        · exact .inr (.inr h)
theorem mem_sortI {y : Int} : ∀ {l : List Int}, y ∈ sortI l ↔ y ∈ l
  | [] => by simp [sortI]
  | x :: l => by rw [sortI, mem_insI, mem_sortI (l := l), List.mem_cons]
theorem mem_dedI {y : Int} : ∀ {l : List Int}, y ∈ dedI l ↔ y ∈ l
  | [] => by simp [dedI]
  | x :: l => by
    rw [dedI]; split
    · rename_i h; rw [mem_dedI (l := l), List.mem_cons]
      exact ⟨.inr, fun q => q.elim (fun e => e ▸ h) id⟩
    · rw [List.mem_cons, List.mem_cons, mem_dedI (l := l)]
theorem rise_insI {x : Int} : ∀ {l : List Int}, riseI l = true → x ∉ l → riseI (insI x l) = true
  | [], _, _ => rfl
  | z :: l, h, hx => by
    rw [insI]; split
    · rename_i h1
      rw [riseI_cons]
      refine ⟨fun y hy => ?_, h⟩
      have h2 := riseI_cons.mp h
      have : x ≠ z := fun e => hx (e ▸ .head _)
      rcases List.mem_cons.mp hy with rfl | hy
      · omega
      · have := h2.1 y hy; omega
    · rename_i h1
      have h2 := riseI_cons.mp h
      rw [riseI_cons]
      refine ⟨fun y hy => ?_, rise_insI h2.2 fun q => hx (.tail _ q)⟩
      rcases mem_insI.mp hy with rfl | hy
      · omega
      · exact h2.1 y hy
theorem rise_sort_ded : ∀ {l : List Int}, riseI (sortI (dedI l)) = true
  | [] => rfl
  | x :: l => by
    rw [dedI]; split
    · exact rise_sort_ded (l := l)
    · rename_i h
      rw [sortI]
      exact rise_insI (rise_sort_ded (l := l)) (by rw [mem_sortI, mem_dedI]; exact h)
theorem mem_joinF {a b : List Int} {y : Int} : y ∈ joinF a b ↔ y ∈ a ∨ y ∈ b := by
  unfold joinF; rw [mem_sortI, mem_dedI, List.mem_append]
theorem rise_joinF {a b : List Int} : riseI (joinF a b) = true := rise_sort_ded
theorem MixR.join {n : Nat} {a b : List Int} (ha : ∀ p ∈ a, 0 ≤ p ∧ p < (n : Int)) (hb : ∀ p ∈ b, 0 ≤ p ∧ p < (n : Int)) : MixR n (joinF a b) :=
  ⟨rise_joinF, fun p hp => (mem_joinF.mp hp).elim (ha p) (hb p)⟩
/-- ascending lists with the same members are the same -/
theorem rise_ext : ∀ {a b : List Int}, riseI a = true → riseI b = true → (∀ y, y ∈ a ↔ y ∈ b) → a = b
  | [], [], _, _, _ => rfl
  | [], y :: b, _, _, h => by have := (h y).mpr (.head _); cases this
  | x :: a, [], _, _, h => by have := (h x).mp (.head _); cases this
  | x :: a, y :: b, ha, hb, h => by
    have ha' := riseI_cons.mp ha
    have hb' := riseI_cons.mp hb
    have e : x = y := by
      have h1 := (h x).mp (.head _)
      have h2 := (h y).mpr (.head _)
      rcases List.mem_cons.mp h1 with h1 | h1
      · exact h1
      · rcases List.mem_cons.mp h2 with h2 | h2
        · exact h2.symm
        · have := ha'.1 y h2; have := hb'.1 x h1; omega
    subst e
    rw [rise_ext ha'.2 hb'.2 fun z => ?_]
    have := h z
    simp only [List.mem_cons] at this
    constructor
    · intro hz
      rcases this.mp (.inr hz) with e | e
      · have := ha'.1 z hz; omega
      · exact e
    · intro hz
      rcases this.mpr (.inr hz) with e | e
      · have := hb'.1 z hz; omega
      · exact e
theorem rise_len : ∀ {l : List Int} {lo hi : Int}, riseI l = true → (∀ p ∈ l, lo ≤ p ∧ p < hi) → (l.length : Int) ≤ max 0 (hi - lo)
  | [], lo, hi, _, _ => by simp; omega
  | x :: l, lo, hi, h, hb => by
    have h' := riseI_cons.mp h
    have := rise_len (l := l) (lo := x + 1) (hi := hi) h'.2 fun p hp => ⟨by have := h'.1 p hp; omega, (hb p (.tail _ hp)).2⟩
    have h0 := hb x (.head _)
    rw [List.length_cons]; omega
theorem MixR.len {n : Nat} {l : List Int} (h : MixR n l) : l.length ≤ n := by
  have := rise_len (lo := 0) (hi := n) h.1 h.2
  omega
/-! ### papers -/
def goneF (facts : List W) (mx : List Int) (i : Nat) (forth : Bool) : Option (List Int) := match facts[i]? with
  | none => none
  | some w => if w.wd = .unlike ∨ (w.wd = .covers ∧ forth = false) then none else
    if hasAll mx (if forth then w.a else w.b) then some (joinF mx (if forth then w.b else w.a)) else none
def oM : Option (List Int) → D
  | none => .none
  | some l => .tuple (l.map .int)
def WsR (n : Nat) (ws : List W) : Prop := ∀ w ∈ ws, MixR n w.a ∧ MixR n w.b
section
variable {N : Nat} {m : Mem}
theorem sset_int {l : List Int} (h : l.length < 64) : ssetD (.list (l.map .int)) = some ((sortI (dedI l)).map .int) := by
  unfold ssetD; dsimp only; rw [List.length_map, if_pos h, intsOf_map]; rfl
theorem ne_none_t {ds : Ds} : cmpD .ne .none (.tuple ds) = some true := by
  unfold cmpD eqOk; dsimp only; rw [if_pos (by simp [PyData.depth])]; simp [PyData.eqv]
theorem goneF_mix {facts : List W} {mx l : List Int} {i : Nat} {b : Bool} {n : Nat} (hf : WsR n facts) (hm : MixR n mx) (h : goneF facts mx i b = some l) : MixR n l := by
  unfold goneF at h
  cases q : facts[i]? with
  | none => rw [q] at h; cases h
  | some w =>
    rw [q] at h
    dsimp only at h
    have hw := hf w (List.mem_of_getElem? q)
    split at h
    · cases h
    · cases b
      · simp only [Bool.false_eq_true, if_false] at h
        by_cases hq : hasAll mx w.b = true
        · rw [if_pos hq] at h; cases h; exact .join hm.2 hw.1.2
        · rw [if_neg hq] at h; cases h
      · simp only [if_true] at h
        by_cases hq : hasAll mx w.a = true
        · rw [if_pos hq] at h; cases h; exact .join hm.2 hw.2.2
        · rw [if_neg hq] at h; cases h
end
/-! ### grown -/
abbrev Chn := List (Nat × Bool)
def eC (c : Chn) : Ds := c.map fun p => .tuple [.int (p.1 : Nat), .bool p.2]
def stp (facts : List W) (s : Chn × List Int) (p : Nat × Bool) : Chn × List Int := match goneF facts s.2 p.1 p.2 with
  | none => s
  | some l => if l = s.2 then s else (s.1 ++ [p], l)
def rnd (facts : List W) (s : Chn × List Int) : Chn × List Int := (List.range facts.length).foldl (fun s i => stp facts (stp facts s (i, true)) (i, false)) s
def growN (facts : List W) : Nat → Chn × List Int → Option (Chn × List Int)
  | 0, _ => none
  | k + 1, s => if (rnd facts s).2 = s.2 then some (rnd facts s) else growN facts k (rnd facts s)
theorem stp_mix {facts : List W} {s : Chn × List Int} {p : Nat × Bool} {n : Nat} (hf : WsR n facts) (hm : MixR n s.2) : MixR n (stp facts s p).2 ∧ (stp facts s p).1.length ≤ s.1.length + 1 := by
  unfold stp
  split
  · exact ⟨hm, by omega⟩
  · rename_i l e
    split
    · exact ⟨hm, by omega⟩
    · exact ⟨goneF_mix hf hm e, by simp⟩
section
variable {N : Nat} {m : Mem}
def grB : Ss := (.cons (.asg 6 (.call 65 (.cons (.var 0) (.cons (.var 1) (.cons (.var 4) (.cons (.var 5) .nil)))))) (.cons (.ifs (.ands (.cons (.isn true (.var 6)) (.cons (.cmp .ne (.var 6) (.var 1)) .nil))) (.cons (.asgs [2, 1] (.cons (.bin .add (.var 2) (.tup (.cons (.tup (.cons (.var 4) (.cons (.var 5) .nil))) .nil))) (.cons (.var 6) .nil))) .nil) .nil) .nil))
def grE (facts : List W) (s : Chn × List Int) (b4 a b c : Option SV) : EnvT := [some (.d (.tuple (facts.map eW))), some (.d (.tuple (s.2.map .int))), some (.d (.tuple (eC s.1))), b4, a, b, c]
theorem rnd_split {facts : List W} {s : Chn × List Int} {k : Nat} : (List.range (k + 1)).foldl (fun s i => stp facts (stp facts s (i, true)) (i, false)) s = stp facts (stp facts ((List.range k).foldl (fun s i => stp facts (stp facts s (i, true)) (i, false)) s) (k, true)) (k, false) := by
  rw [List.range_succ, List.foldl_append]; rfl
def rndK (facts : List W) (k : Nat) (s : Chn × List Int) : Chn × List Int := (List.range k).foldl (fun s i => stp facts (stp facts s (i, true)) (i, false)) s
theorem rndK_succ {facts : List W} {s : Chn × List Int} {k : Nat} : rndK facts (k + 1) s = stp facts (stp facts (rndK facts k s) (k, true)) (k, false) := rnd_split
theorem rndK_mix {facts : List W} {s : Chn × List Int} {n : Nat} (hf : WsR n facts) (hm : MixR n s.2) : ∀ k, MixR n (rndK facts k s).2 ∧ (rndK facts k s).1.length ≤ s.1.length + 2 * k
  | 0 => ⟨hm, by simp [rndK]⟩
  | k + 1 => by
    have ih := rndK_mix hf hm k
    have h1 := stp_mix (p := (k, true)) hf ih.1
    have h2 := stp_mix (p := (k, false)) hf h1.1
    rw [rndK_succ]
    exact ⟨h2.1, by omega⟩
def grF : S := (.fr (.one 5) (.dat (.tup (.cons (.cst (.bool true)) (.cons (.cst (.bool false)) .nil)))) grB)
def grW : Ss := (.cons (.asg 3 (.var 1)) (.cons (.fr (.one 4) (.rng (.blt .len (.cons (.var 0) .nil))) (.cons grF .nil)) .nil))
def grownF (facts : List W) (mx : List Int) : Chn × List Int := (growN facts 99 ([], mx)).getD ([], [])
end
/-! growing ends -/
theorem gone_sub {facts : List W} {mx l : List Int} {i : Nat} {b : Bool} (h : goneF facts mx i b = some l) : ∀ p ∈ mx, p ∈ l := by
  unfold goneF at h
  cases q : facts[i]? with
  | none => rw [q] at h; cases h
  | some w =>
    rw [q] at h
    dsimp only at h
    split at h
    · cases h
    · by_cases hq : hasAll mx (if b = true then w.a else w.b) = true
      · rw [if_pos hq] at h; cases h; exact fun p hp => mem_joinF.mpr (.inl hp)
      · rw [if_neg hq] at h; cases h
theorem stp_sub {facts : List W} {s : Chn × List Int} {p : Nat × Bool} : ∀ x ∈ s.2, x ∈ (stp facts s p).2 := by
  unfold stp
  split
  · exact fun x h => h
  · rename_i l e
    split
    · exact fun x h => h
    · exact gone_sub e
theorem rndK_sub {facts : List W} {s : Chn × List Int} : ∀ k, ∀ x ∈ s.2, x ∈ (rndK facts k s).2
  | 0, x, h => h
  | k + 1, x, h => by rw [rndK_succ]; exact stp_sub _ (stp_sub _ (rndK_sub k x h))
theorem sub_both : ∀ {b a : List Int}, riseI a = true → riseI b = true → (∀ x ∈ a, x ∈ b) → a.length ≤ b.length ∧ (b.length ≤ a.length → a = b)
  | [], [], _, _, _ => ⟨Nat.le_refl _, fun _ => rfl⟩
  | [], x :: a, _, _, h => by have := h x (.head _); cases this
  | y :: b, [], _, _, _ => ⟨by simp, fun h => by simp at h⟩
  | y :: b, x :: a, ha, hb, h => by
    have ha' := riseI_cons.mp ha
    have hb' := riseI_cons.mp hb
    by_cases e : x = y
    · subst e
      have := sub_both (b := b) (a := a) ha'.2 hb'.2 fun z hz => by
        rcases List.mem_cons.mp (h z (.tail _ hz)) with e | q
        · have := ha'.1 z hz; omega
        · exact q
      simp only [List.length_cons]
      exact ⟨by omega, fun q => by rw [this.2 (by omega)]⟩
    · have hxy : y < x := by
        rcases List.mem_cons.mp (h x (.head _)) with q | q
        · exact absurd q e
        · exact hb'.1 x q
      have := sub_both (b := b) (a := x :: a) ha hb'.2 fun z hz => by
        rcases List.mem_cons.mp (h z hz) with q | q
        · rcases List.mem_cons.mp hz with r | r
          · omega
          · have := ha'.1 z r; omega
        · exact q
      simp only [List.length_cons] at this ⊢
      exact ⟨by omega, fun q => by omega⟩
theorem sub_len {a b : List Int} (ha : riseI a = true) (hb : riseI b = true) (h : ∀ x ∈ a, x ∈ b) : a.length ≤ b.length := (sub_both ha hb h).1
theorem sub_eq {a b : List Int} (ha : riseI a = true) (hb : riseI b = true) (h : ∀ x ∈ a, x ∈ b) (hl : b.length ≤ a.length) : a = b := (sub_both ha hb h).2 hl
theorem growN_some {facts : List W} {n : Nat} (hf : WsR n facts) : ∀ (k : Nat) (s : Chn × List Int), MixR n s.2 → n < k + s.2.length → ∃ r, growN facts k s = some r ∧ MixR n r.2 ∧ (∀ x ∈ s.2, x ∈ r.2)
  | 0, s, hm, hk => by have := hm.len; omega
  | k + 1, s, hm, hk => by
    rw [growN]
    have hr := rndK_mix hf hm facts.length
    have hs := rndK_sub (facts := facts) (s := s) facts.length
    have e0 : rndK facts facts.length s = rnd facts s := rfl
    rw [e0] at hr hs
    by_cases hq : (rnd facts s).2 = s.2
    · rw [if_pos hq]; exact ⟨_, rfl, hr.1, hs⟩
    · rw [if_neg hq]
      have : s.2.length < (rnd facts s).2.length := by
        have h1 := sub_len hm.1 hr.1.1 hs
        rcases Nat.lt_or_ge s.2.length (rnd facts s).2.length with h2 | h2
        · exact h2
        · exact absurd (sub_eq hm.1 hr.1.1 hs h2).symm hq
      obtain ⟨r, h1, h2, h3⟩ := growN_some hf k (rnd facts s) hr.1 (by omega)
      exact ⟨r, h1, h2, fun x hx => h3 x (hs x hx)⟩
theorem grownF_some {facts : List W} {n : Nat} {mx : List Int} (hf : WsR n facts) (hn : n ≤ 30) (hm : MixR n mx) : growN facts 99 ([], mx) = some (grownF facts mx) ∧ MixR n (grownF facts mx).2 ∧ (∀ x ∈ mx, x ∈ (grownF facts mx).2) := by
  obtain ⟨r, h1, h2, h3⟩ := growN_some hf 99 ([], mx) hm (by simp; omega)
  unfold grownF
  rw [h1]
  exact ⟨rfl, h2, h3⟩
section
variable {N : Nat} {m : Mem}
end
end Tn

set_option maxRecDepth 100000
namespace Tn
open PySem
local macro_rules | `(tactic| simp_arith [$ls,*]) => `(tactic| simp (disch := first | assumption | omega | rfl | decide) only [$ls,*, runF_mk, LIM_eq, fLK_s, fL_nil, apE_o, x_sti, e_glo, gloK_s, e_cav, cvK_f, kdK_s, kdL_s, e_kdc, newK_o, len_rng, initE_eq, fin_nx, fin_rt, fin_ex, fin_ite, bind_ok, bind_ex, bind_no, bind_ite, of_ok, of_ex, of_no, of_ite, seq_nx, seq_rt, seq_ex, seq_no, seq_ite, bd_d, bd_own, bd_p, bd_ex, bd_ite, lift_some, lift_none, lift_ite, map_some, map_none, opd_d, opd_own, opd_p, toD_d, toD_own, md_nil, md_d, md_own, ma_nil, ma_d, ma_own, ma_h, ma_f, ma_s, mo_nil, mo_d, mo_own, mo_p, e_var, v_own, v_d, v_h, v_f, v_s, e_cst, e_fnr, e_pow, e_bin, e_neg, negI, e_cmp, e_chn, chK_b, e_isn, nn_none, nn_bool, nn_int, nn_str, nn_tup, nn_list, nn_own, nn_p, e_isb, bk_b, bk_n, e_ands, e_ors, e_not, bK_b, e_ite, noP_d, noP_own, noP_ex, noP_ite, e_tup, e_lst, tupK_s, lstK_s, e_idx, ixK_d, ixK_own, ixK_p, ixK_h, ixK_s, memK_s, e_slo, e_shi, e_rev, e_call, clK_s, e_blt, bl2_s, bl2_d, bl2_own, bl2_p, blO_s, e_isi, e_sse, e_lrg, e_trg, e_cm1, cmK_ok, e_cm2, cmK2_ok, e_ler, e_tnot, tnK_b, tnK_i, x_frz, bi_addB, bi_subB, bl_strb, lerK_ok, lerK_ex, lerO_s, lerK_ite, s_nil, s_cons, a_one, a_cons, o_one, o_cons, t_nil, t_cons, tK_b, i_dat, datK_t, datK_l, datK_o, datK_p, i_rng, i_rng2, rng2K_i, rngK_i, i_enm, enm2_t, enm2_l, enm2_o, enm2_p, i_fns, bT_one, bT_onef, bT_tup, x_asg, setS_d, setS_o, setS_f, x_asgs, setK_s, sA_nil, sA_d, sA_o, x_unp, x_newh, appK_s, x_app, x_exp, x_retv, x_ret, rtK_d, rtK_o, x_retN, x_ifs, ifK_b, x_whl, x_fr, x_rai, x_raiv, raK_i, b_nil, b_cons, b_dct, dcK_s, dcO_ok, frz_e, frz_v, frz_ev, frz_r, frz_r2, frz_f, fz_eq, fzK_d, fzK_o, wipe_nil, wipe_cons, c_lt, c_le, c_gt, c_ge, c_eqi, c_nei, c_eqs, c_nes, c_eqb, c_neb, c_eqn, c_nen, c_eqtn, c_netn, bi_add, bi_sub, bi_addt, bi_addl, bi_adds, bl_lent, bl_lenl, bl_tup, bl_int, bl_bool, bl_abs, bl_min, bl_max, ix_t, ix_l, at_0, at_1, at_2, at_3, at_4, isiD, dbl_eq, ite_okb, ite_okB, ite_tb, ite_bt, ite_ft, ite_fx, List.length_cons, List.length_nil, List.map_cons, List.map_nil, List.length_map, List.cons_append, List.nil_append, List.append_nil, Nat.reduceAdd, Nat.reduceSub, Nat.reduceLeDiff, Nat.reduceLT, Nat.zero_add, List.reduceReplicate, List.getElem?_cons_zero, List.getElem?_cons_succ, List.set_cons_zero, List.set_cons_succ, List.zip_cons_cons, List.zip_nil_left, List.zip_nil_right, List.foldl_cons, List.foldl_nil, List.all_cons, List.all_nil, List.take_length, and_true, true_and, if_true, if_false, ite_true, ite_false, if_pos, ↓reduceIte, Bool.false_eq_true, Bool.not_true, Bool.not_false, Bool.true_and, Bool.and_true, Bool.false_and, Bool.and_false, Bool.false_or, Bool.or_false, Bool.true_or, Bool.or_true, Bool.not_not, decide_true, decide_false, bne_self_eq_false, Bool.bne_false, Bool.bne_true, and_self])
local macro_rules | `(tactic| simp_arith) => `(tactic| simp (disch := first | assumption | omega | rfl | decide) only [runF_mk, LIM_eq, fLK_s, fL_nil, apE_o, x_sti, e_glo, gloK_s, e_cav, cvK_f, kdK_s, kdL_s, e_kdc, newK_o, len_rng, initE_eq, fin_nx, fin_rt, fin_ex, fin_ite, bind_ok, bind_ex, bind_no, bind_ite, of_ok, of_ex, of_no, of_ite, seq_nx, seq_rt, seq_ex, seq_no, seq_ite, bd_d, bd_own, bd_p, bd_ex, bd_ite, lift_some, lift_none, lift_ite, map_some, map_none, opd_d, opd_own, opd_p, toD_d, toD_own, md_nil, md_d, md_own, ma_nil, ma_d, ma_own, ma_h, ma_f, ma_s, mo_nil, mo_d, mo_own, mo_p, e_var, v_own, v_d, v_h, v_f, v_s, e_cst, e_fnr, e_pow, e_bin, e_neg, negI, e_cmp, e_chn, chK_b, e_isn, nn_none, nn_bool, nn_int, nn_str, nn_tup, nn_list, nn_own, nn_p, e_isb, bk_b, bk_n, e_ands, e_ors, e_not, bK_b, e_ite, noP_d, noP_own, noP_ex, noP_ite, e_tup, e_lst, tupK_s, lstK_s, e_idx, ixK_d, ixK_own, ixK_p, ixK_h, ixK_s, memK_s, e_slo, e_shi, e_rev, e_call, clK_s, e_blt, bl2_s, bl2_d, bl2_own, bl2_p, blO_s, e_isi, e_sse, e_lrg, e_trg, e_cm1, cmK_ok, e_cm2, cmK2_ok, e_ler, e_tnot, tnK_b, tnK_i, x_frz, bi_addB, bi_subB, bl_strb, lerK_ok, lerK_ex, lerO_s, lerK_ite, s_nil, s_cons, a_one, a_cons, o_one, o_cons, t_nil, t_cons, tK_b, i_dat, datK_t, datK_l, datK_o, datK_p, i_rng, i_rng2, rng2K_i, rngK_i, i_enm, enm2_t, enm2_l, enm2_o, enm2_p, i_fns, bT_one, bT_onef, bT_tup, x_asg, setS_d, setS_o, setS_f, x_asgs, setK_s, sA_nil, sA_d, sA_o, x_unp, x_newh, appK_s, x_app, x_exp, x_retv, x_ret, rtK_d, rtK_o, x_retN, x_ifs, ifK_b, x_whl, x_fr, x_rai, x_raiv, raK_i, b_nil, b_cons, b_dct, dcK_s, dcO_ok, frz_e, frz_v, frz_ev, frz_r, frz_r2, frz_f, fz_eq, fzK_d, fzK_o, wipe_nil, wipe_cons, c_lt, c_le, c_gt, c_ge, c_eqi, c_nei, c_eqs, c_nes, c_eqb, c_neb, c_eqn, c_nen, c_eqtn, c_netn, bi_add, bi_sub, bi_addt, bi_addl, bi_adds, bl_lent, bl_lenl, bl_tup, bl_int, bl_bool, bl_abs, bl_min, bl_max, ix_t, ix_l, at_0, at_1, at_2, at_3, at_4, isiD, dbl_eq, ite_okb, ite_okB, ite_tb, ite_bt, ite_ft, ite_fx, List.length_cons, List.length_nil, List.map_cons, List.map_nil, List.length_map, List.cons_append, List.nil_append, List.append_nil, Nat.reduceAdd, Nat.reduceSub, Nat.reduceLeDiff, Nat.reduceLT, Nat.zero_add, List.reduceReplicate, List.getElem?_cons_zero, List.getElem?_cons_succ, List.set_cons_zero, List.set_cons_succ, List.zip_cons_cons, List.zip_nil_left, List.zip_nil_right, List.foldl_cons, List.foldl_nil, List.all_cons, List.all_nil, List.take_length, and_true, true_and, if_true, if_false, ite_true, ite_false, if_pos, ↓reduceIte, Bool.false_eq_true, Bool.not_true, Bool.not_false, Bool.true_and, Bool.and_true, Bool.false_and, Bool.and_false, Bool.false_or, Bool.or_false, Bool.true_or, Bool.or_true, Bool.not_not, decide_true, decide_false, bne_self_eq_false, Bool.bne_false, Bool.bne_true, and_self])
/-! ### typed books -/
def MixOk (n : Nat) (l : List Int) : Prop := MixR n l ∧ l ≠ []
def FcOk (n : Nat) (w : W) : Prop := w.wd ≠ .bares ∧ MixOk n w.a ∧ MixOk n w.b
def BkOk (n : Nat) (ws : List W) : Prop := 2 ≤ n ∧ n ≤ 6 ∧ ws.length ≤ 6 ∧ ∀ w ∈ ws, FcOk n w
def eB (n : Nat) (ws : List W) : D := .tuple [.int (n : Nat), .tuple (ws.map eW)]
theorem all_bnd {ns : List Int} {n : Nat} : (ns.all fun i => decide (0 ≤ i) && decide (i ≤ (n : Int) - 1)) = true ↔ ∀ p ∈ ns, 0 ≤ p ∧ p < (n : Int) := by
  simp only [List.all_eq_true, Bool.and_eq_true, decide_eq_true_eq]
  exact ⟨fun h p hp => ⟨(h p hp).1, by have := (h p hp).2; omega⟩, fun h p hp => ⟨(h p hp).1, by have := (h p hp).2; omega⟩⟩
theorem isRise_map {ns : List Int} {most : Int} : isRise (.tuple (ns.map .int)) most = (ns.all (fun i => decide (0 ≤ i) && decide (i ≤ most)) && riseI ns) := by
  unfold isRise; dsimp only; rw [intsOf_map]
theorem isMix_iff {n : Nat} {v : D} : isMix n v = true ↔ ∃ l, v = .tuple (l.map .int) ∧ MixOk n l := by
  unfold isMix
  constructor
  · intro h
    rw [Bool.and_eq_true] at h
    obtain ⟨h1, h2⟩ := h
    cases v with
    | tuple ds =>
      unfold isRise at h1
      dsimp only at h1
      cases q : intsOf ds with
      | none => rw [q] at h1; cases h1
      | some ns =>
        rw [q] at h1
        have e := intsOf_some q
        subst e
        rw [Bool.and_eq_true] at h1
        refine ⟨ns, rfl, ⟨h1.2, all_bnd.mp h1.1⟩, fun z => ?_⟩
        subst z; cases h2
    | _ => cases h1
  · rintro ⟨l, rfl, ⟨h1, h2⟩, h3⟩
    rw [isRise_map, all_bnd.mpr h2, h1]
    cases l with
    | nil => exact absurd rfl h3
    | cons => rfl
theorem isFact_iff {n : Nat} {v : D} : isFact n v = true ↔ ∃ w, v = eW w ∧ FcOk n w := by
  constructor
  · intro h
    unfold isFact at h
    split at h
    · rename_i w a b
      simp only [Bool.and_eq_true, Bool.or_eq_true, decide_eq_true_eq] at h
      obtain ⟨h1, h2, h3⟩ := h
      obtain ⟨x, rfl, hx⟩ := isMix_iff.mp h2
      obtain ⟨y, rfl, hy⟩ := isMix_iff.mp h3
      rcases h1 with h1 | h1 | h1 <;> subst h1
      · exact ⟨⟨.same, x, y⟩, rfl, ⟨(fun z => by cases z), hx, hy⟩⟩
      · exact ⟨⟨.covers, x, y⟩, rfl, ⟨(fun z => by cases z), hx, hy⟩⟩
      · exact ⟨⟨.unlike, x, y⟩, rfl, ⟨(fun z => by cases z), hx, hy⟩⟩
    · cases h
  · rintro ⟨⟨w, x, y⟩, rfl, h1, h2, h3⟩
    unfold isFact eW
    dsimp only at *
    rw [isMix_iff.mpr ⟨x, rfl, h2⟩, isMix_iff.mpr ⟨y, rfl, h3⟩]
    cases w <;> first | rfl | exact absurd rfl h1
theorem all_typed {n : Nat} : ∀ {gs : Ds}, gs.all (isFact n) = true → ∃ ws : List W, gs = ws.map eW ∧ ∀ w ∈ ws, FcOk n w
  | [], _ => ⟨[], rfl, fun _ h => by cases h⟩
  | g :: gs, h => by
    rw [List.all_cons, Bool.and_eq_true] at h
    obtain ⟨w, rfl, hw⟩ := isFact_iff.mp h.1
    obtain ⟨ws, rfl, hws⟩ := all_typed h.2
    exact ⟨w :: ws, rfl, fun x hx => by rcases List.mem_cons.mp hx with rfl | hx; exact hw; exact hws x hx⟩
theorem isBook_iff {v : D} : isBook v = true ↔ ∃ n ws, v = eB n ws ∧ BkOk n ws := by
  constructor
  · intro h
    unfold isBook at h
    split at h
    · rename_i n gs
      simp only [Bool.and_eq_true, decide_eq_true_eq] at h
      obtain ⟨⟨h1, h2⟩, h3, h4⟩ := h
      obtain ⟨k, rfl⟩ : ∃ k : Nat, n = k := ⟨n.toNat, by omega⟩
      obtain ⟨ws, rfl, hw⟩ := all_typed h4
      rw [List.length_map] at h3
      exact ⟨k, ws, rfl, by omega, by omega, h3, hw⟩
    · cases h
  · rintro ⟨n, ws, rfl, h1, h2, h3, h4⟩
    unfold isBook eB
    dsimp only
    rw [List.length_map]
    simp only [Bool.and_eq_true, decide_eq_true_eq, List.all_eq_true, List.mem_map]
    refine ⟨⟨by omega, by omega⟩, h3, ?_⟩
    rintro x ⟨w, hw, rfl⟩
    exact isFact_iff.mpr ⟨w, rfl, h4 w hw⟩
theorem BkOk.is {n : Nat} {ws : List W} (h : BkOk n ws) : isBook (eB n ws) = true := isBook_iff.mpr ⟨n, ws, rfl, h⟩
theorem FcOk.is {n : Nat} {w : W} (h : FcOk n w) : isFact n (eW w) = true := isFact_iff.mpr ⟨w, rfl, h⟩
theorem MixOk.is {n : Nat} {l : List Int} (h : MixOk n l) : isMix n (.tuple (l.map .int)) = true := isMix_iff.mpr ⟨l, rfl, h⟩
theorem BkOk.r {n : Nat} {ws : List W} (h : BkOk n ws) : WsR n ws := fun w hw => ⟨(h.2.2.2 w hw).2.1.1, (h.2.2.2 w hw).2.2.1⟩
theorem FcOk.r {n : Nat} {w : W} (h : FcOk n w) : MixR n w.a ∧ MixR n w.b := ⟨h.2.1.1, h.2.2.1⟩
theorem Sm_ints {l : List Int} (h : l.length ≤ 1000) : Sm (.tuple (l.map .int)) := by
  rw [Sm_t]; refine ⟨by rw [List.length_map]; exact h, fun d hd => ?_⟩
  obtain ⟨i, _, rfl⟩ := List.mem_map.mp hd; trivial
theorem Sm_W {w : W} (h1 : w.a.length ≤ 1000) (h2 : w.b.length ≤ 1000) : Sm (eW w) := by
  unfold eW; rw [Sm_t]
  refine ⟨by simp, fun d hd => ?_⟩
  simp only [List.mem_cons, List.not_mem_nil, or_false] at hd
  rcases hd with rfl | rfl | rfl
  · trivial
  · exact Sm_ints h1
  · exact Sm_ints h2
theorem FcOk.sm {n : Nat} {w : W} (hn : n ≤ 30) (h : FcOk n w) : Sm (eW w) := Sm_W (by have := h.r.1.len; omega) (by have := h.r.2.len; omega)
theorem BkOk.sm {n : Nat} {ws : List W} (h : BkOk n ws) : Sm (eB n ws) := by
  unfold eB; rw [Sm_t]
  refine ⟨by simp, fun d hd => ?_⟩
  simp only [List.mem_cons, List.not_mem_nil, or_false] at hd
  rcases hd with rfl | rfl
  · trivial
  · rw [Sm_t]
    refine ⟨by rw [List.length_map]; have := h.2.2.1; omega, fun d hd => ?_⟩
    obtain ⟨w, hw, rfl⟩ := List.mem_map.mp hd
    exact (h.2.2.2 w hw).sm (by have := h.2.1; omega)
theorem MixOk.sm {n : Nat} {l : List Int} (hn : n ≤ 30) (h : MixOk n l) : Sm (.tuple (l.map .int)) := Sm_ints (by have := h.1.len; omega)
theorem WsR.ok {n : Nat} {ws : List W} (hn : n ≤ 30) (h : WsR n ws) (hl : ws.length ≤ 1000) : WsOk ws := ⟨hl, fun w hw => ⟨by have := (h w hw).1.len; omega, by have := (h w hw).2.len; omega⟩⟩
theorem WsR.add {n : Nat} {ws : List W} {w : W} (h : WsR n ws) (hw : MixR n w.a ∧ MixR n w.b) : WsR n (ws ++ [w]) := fun x hx => by
  rw [List.mem_append, List.mem_singleton] at hx
  rcases hx with hx | rfl
  · exact h x hx
  · exact hw
theorem WsR.app {n : Nat} {ws vs : List W} (h : WsR n ws) (hv : WsR n vs) : WsR n (ws ++ vs) := fun x hx => by
  rw [List.mem_append] at hx
  rcases hx with hx | hx
  · exact h x hx
  · exact hv x hx
theorem WsR.add2 {n : Nat} {ws : List W} {w : W} (h : WsR n ws) (hw : MixR n w.a ∧ MixR n w.b) : WsR n (ws ++ [w.neg]) := h.add hw
/-! ### claims -/
def knownF (n : Nat) (ws : List W) (w : W) : Option Bool :=
  if canF n ws = true then (if canF n (ws ++ [w.neg]) = true then (if canF n (ws ++ [w]) = true then none else some false) else some true) else none
def oB : Option Bool → D
  | none => .none
  | some b => .bool b
def oH : Option (List (List Int)) → D
  | none => .none
  | some r => .tuple (r.map eM)
section
variable {N : Nat} {m : Mem} {n : Nat} {ws : List W} {w : W}
theorem k_can (h : 4 ≤ N) (hn : n ≤ 12) (hw : WsR n ws) (hl : ws.length ≤ 1000) : C N 55 [.d (.int (n : Nat)), .d (.tuple (ws.map eW))] m = .ok (.d (.bool (canF n ws))) m := c_can_be h hn (hw.ok (by omega) hl)
theorem k_hues (h : 4 ≤ N) (hn : n ≤ 12) (hw : WsR n ws) (hl : ws.length ≤ 1000) : C N 51 [.d (.int (n : Nat)), .d (.tuple (ws.map eW))] m = .ok (.d (oH (huesF n ws))) m := by
  rw [c_found_hues h hn (hw.ok (by omega) hl)]; cases huesF n ws <;> rfl
theorem map_add {ws : List W} {w : W} : ws.map eW ++ [eW w] = (ws ++ [w]).map eW := by rw [List.map_append]; rfl
theorem c_known (h : 5 ≤ N) (hn : n ≤ 12) (hw : WsR n ws) (hc : MixR n w.a ∧ MixR n w.b) (hl : ws.length ≤ 900) :
    C N 56 [.d (.int (n : Nat)), .d (.tuple (ws.map eW)), .d (eW w)] m = .ok (.d (oB (knownF n ws w))) m := by
  have h1 := hw.add hc
  have h2 := hw.add2 hc
  have l1 : (ws ++ [w]).length ≤ 1000 := by simp; omega
  have l2 : (ws ++ [w.neg]).length ≤ 1000 := by simp; omega
  have l3 : ws.length ≤ 1000 := by omega
  rw [C_unf t_known (by omega), f_known]
  simp_arith [k_can]
  unfold knownF
  cases canF n ws with
  | false => simp_arith; rfl
  | true =>
    simp_arith [c_contrary, map_add, k_can]
    cases canF n (ws ++ [w.neg]) with
    | false => simp_arith; rfl
    | true =>
      simp_arith [map_add, k_can]
      cases canF n (ws ++ [w]) <;> (simp_arith; rfl)
theorem eB_eq : eB n ws = .tuple [.int (n : Nat), .tuple (ws.map eW)] := rfl
theorem k_need_book (h : 6 ≤ N) (hb : BkOk n ws) : C N 6 [.d (.tuple [.int (n : Nat), .tuple (ws.map eW)])] m = .ok (.d .none) m := by
  have := c_need_book (m := m) h hb.sm
  rw [hb.is, if_pos rfl] at this
  exact this
theorem k_need_claim (h : 7 ≤ N) (hb : BkOk n ws) (hw : FcOk n w) : C N 34 [.d (.tuple [.int (n : Nat), .tuple (ws.map eW)]), .d (eW w)] m = .ok (.d .none) m := by
  have e1 := hb.is
  rw [eB] at e1
  rw [c_need_claim h hb.sm (hw.sm (by have := hb.2.1; omega)), if_pos e1, if_pos hw.is]
theorem c_sure (h : 8 ≤ N) (hb : BkOk n ws) (hw : FcOk n w) : C N 57 [.d (.tuple [.int (n : Nat), .tuple (ws.map eW)]), .d (eW w)] m = .ok (.d (oB (knownF n ws w))) m := by
  have h1 := hb.r
  have h2 := hw.r
  have h3 := hb.2.1
  have h4 := hb.2.2.1
  rw [C_unf t_sure (by omega), f_sure]
  simp_arith [k_need_claim, c_known]
theorem c_breaking (h : 8 ≤ N) (hb : BkOk n ws) (hw : FcOk n w) : C N 58 [.d (.tuple [.int (n : Nat), .tuple (ws.map eW)]), .d (eW w)] m = .ok (.d (oH (huesF n (ws ++ [w.neg])))) m := by
  have h1 := hb.r.add2 hw.r
  have h3 := hb.2.1
  have h4 := hb.2.2.1
  have h5 : (ws ++ [w.neg]).length ≤ 1000 := by simp; omega
  rw [C_unf t_breaking (by omega), f_breaking]
  simp_arith [k_need_claim, c_contrary, map_add, k_hues]
end
end Tn

set_option maxRecDepth 100000
namespace Tn
open PySem
local macro_rules | `(tactic| simp_arith [$ls,*]) => `(tactic| simp (disch := first | assumption | omega | rfl | decide) only [$ls,*, runF_mk, LIM_eq, fLK_s, fL_nil, apE_o, x_sti, e_glo, gloK_s, e_cav, cvK_f, kdK_s, kdL_s, e_kdc, newK_o, len_rng, initE_eq, fin_nx, fin_rt, fin_ex, fin_ite, bind_ok, bind_ex, bind_no, bind_ite, of_ok, of_ex, of_no, of_ite, seq_nx, seq_rt, seq_ex, seq_no, seq_ite, bd_d, bd_own, bd_p, bd_ex, bd_ite, lift_some, lift_none, lift_ite, map_some, map_none, opd_d, opd_own, opd_p, toD_d, toD_own, md_nil, md_d, md_own, ma_nil, ma_d, ma_own, ma_h, ma_f, ma_s, mo_nil, mo_d, mo_own, mo_p, e_var, v_own, v_d, v_h, v_f, v_s, e_cst, e_fnr, e_pow, e_bin, e_neg, negI, e_cmp, e_chn, chK_b, e_isn, nn_none, nn_bool, nn_int, nn_str, nn_tup, nn_list, nn_own, nn_p, e_isb, bk_b, bk_n, e_ands, e_ors, e_not, bK_b, e_ite, noP_d, noP_own, noP_ex, noP_ite, e_tup, e_lst, tupK_s, lstK_s, e_idx, ixK_d, ixK_own, ixK_p, ixK_h, ixK_s, memK_s, e_slo, e_shi, e_rev, e_call, clK_s, e_blt, bl2_s, bl2_d, bl2_own, bl2_p, blO_s, e_isi, e_sse, e_lrg, e_trg, e_cm1, cmK_ok, e_cm2, cmK2_ok, e_ler, e_tnot, tnK_b, tnK_i, x_frz, bi_addB, bi_subB, bl_strb, lerK_ok, lerK_ex, lerO_s, lerK_ite, s_nil, s_cons, a_one, a_cons, o_one, o_cons, t_nil, t_cons, tK_b, i_dat, datK_t, datK_l, datK_o, datK_p, i_rng, i_rng2, rng2K_i, rngK_i, i_enm, enm2_t, enm2_l, enm2_o, enm2_p, i_fns, bT_one, bT_onef, bT_tup, x_asg, setS_d, setS_o, setS_f, x_asgs, setK_s, sA_nil, sA_d, sA_o, x_unp, x_newh, appK_s, x_app, x_exp, x_retv, x_ret, rtK_d, rtK_o, x_retN, x_ifs, ifK_b, x_whl, x_fr, x_rai, x_raiv, raK_i, b_nil, b_cons, b_dct, dcK_s, dcO_ok, frz_e, frz_v, frz_ev, frz_r, frz_r2, frz_f, fz_eq, fzK_d, fzK_o, wipe_nil, wipe_cons, c_lt, c_le, c_gt, c_ge, c_eqi, c_nei, c_eqs, c_nes, c_eqb, c_neb, c_eqn, c_nen, c_eqtn, c_netn, bi_add, bi_sub, bi_addt, bi_addl, bi_adds, bl_lent, bl_lenl, bl_tup, bl_int, bl_bool, bl_abs, bl_min, bl_max, ix_t, ix_l, at_0, at_1, at_2, at_3, at_4, isiD, dbl_eq, ite_okb, ite_okB, ite_tb, ite_bt, ite_ft, ite_fx, List.length_cons, List.length_nil, List.map_cons, List.map_nil, List.length_map, List.cons_append, List.nil_append, List.append_nil, Nat.reduceAdd, Nat.reduceSub, Nat.reduceLeDiff, Nat.reduceLT, Nat.zero_add, List.reduceReplicate, List.getElem?_cons_zero, List.getElem?_cons_succ, List.set_cons_zero, List.set_cons_succ, List.zip_cons_cons, List.zip_nil_left, List.zip_nil_right, List.foldl_cons, List.foldl_nil, List.all_cons, List.all_nil, List.take_length, and_true, true_and, if_true, if_false, ite_true, ite_false, if_pos, ↓reduceIte, Bool.false_eq_true, Bool.not_true, Bool.not_false, Bool.true_and, Bool.and_true, Bool.false_and, Bool.and_false, Bool.false_or, Bool.or_false, Bool.true_or, Bool.or_true, Bool.not_not, decide_true, decide_false, bne_self_eq_false, Bool.bne_false, Bool.bne_true, and_self])
local macro_rules | `(tactic| simp_arith) => `(tactic| simp (disch := first | assumption | omega | rfl | decide) only [runF_mk, LIM_eq, fLK_s, fL_nil, apE_o, x_sti, e_glo, gloK_s, e_cav, cvK_f, kdK_s, kdL_s, e_kdc, newK_o, len_rng, initE_eq, fin_nx, fin_rt, fin_ex, fin_ite, bind_ok, bind_ex, bind_no, bind_ite, of_ok, of_ex, of_no, of_ite, seq_nx, seq_rt, seq_ex, seq_no, seq_ite, bd_d, bd_own, bd_p, bd_ex, bd_ite, lift_some, lift_none, lift_ite, map_some, map_none, opd_d, opd_own, opd_p, toD_d, toD_own, md_nil, md_d, md_own, ma_nil, ma_d, ma_own, ma_h, ma_f, ma_s, mo_nil, mo_d, mo_own, mo_p, e_var, v_own, v_d, v_h, v_f, v_s, e_cst, e_fnr, e_pow, e_bin, e_neg, negI, e_cmp, e_chn, chK_b, e_isn, nn_none, nn_bool, nn_int, nn_str, nn_tup, nn_list, nn_own, nn_p, e_isb, bk_b, bk_n, e_ands, e_ors, e_not, bK_b, e_ite, noP_d, noP_own, noP_ex, noP_ite, e_tup, e_lst, tupK_s, lstK_s, e_idx, ixK_d, ixK_own, ixK_p, ixK_h, ixK_s, memK_s, e_slo, e_shi, e_rev, e_call, clK_s, e_blt, bl2_s, bl2_d, bl2_own, bl2_p, blO_s, e_isi, e_sse, e_lrg, e_trg, e_cm1, cmK_ok, e_cm2, cmK2_ok, e_ler, e_tnot, tnK_b, tnK_i, x_frz, bi_addB, bi_subB, bl_strb, lerK_ok, lerK_ex, lerO_s, lerK_ite, s_nil, s_cons, a_one, a_cons, o_one, o_cons, t_nil, t_cons, tK_b, i_dat, datK_t, datK_l, datK_o, datK_p, i_rng, i_rng2, rng2K_i, rngK_i, i_enm, enm2_t, enm2_l, enm2_o, enm2_p, i_fns, bT_one, bT_onef, bT_tup, x_asg, setS_d, setS_o, setS_f, x_asgs, setK_s, sA_nil, sA_d, sA_o, x_unp, x_newh, appK_s, x_app, x_exp, x_retv, x_ret, rtK_d, rtK_o, x_retN, x_ifs, ifK_b, x_whl, x_fr, x_rai, x_raiv, raK_i, b_nil, b_cons, b_dct, dcK_s, dcO_ok, frz_e, frz_v, frz_ev, frz_r, frz_r2, frz_f, fz_eq, fzK_d, fzK_o, wipe_nil, wipe_cons, c_lt, c_le, c_gt, c_ge, c_eqi, c_nei, c_eqs, c_nes, c_eqb, c_neb, c_eqn, c_nen, c_eqtn, c_netn, bi_add, bi_sub, bi_addt, bi_addl, bi_adds, bl_lent, bl_lenl, bl_tup, bl_int, bl_bool, bl_abs, bl_min, bl_max, ix_t, ix_l, at_0, at_1, at_2, at_3, at_4, isiD, dbl_eq, ite_okb, ite_okB, ite_tb, ite_bt, ite_ft, ite_fx, List.length_cons, List.length_nil, List.map_cons, List.map_nil, List.length_map, List.cons_append, List.nil_append, List.append_nil, Nat.reduceAdd, Nat.reduceSub, Nat.reduceLeDiff, Nat.reduceLT, Nat.zero_add, List.reduceReplicate, List.getElem?_cons_zero, List.getElem?_cons_succ, List.set_cons_zero, List.set_cons_succ, List.zip_cons_cons, List.zip_nil_left, List.zip_nil_right, List.foldl_cons, List.foldl_nil, List.all_cons, List.all_nil, List.take_length, and_true, true_and, if_true, if_false, ite_true, ite_false, if_pos, ↓reduceIte, Bool.false_eq_true, Bool.not_true, Bool.not_false, Bool.true_and, Bool.and_true, Bool.false_and, Bool.and_false, Bool.false_or, Bool.or_false, Bool.true_or, Bool.or_true, Bool.not_not, decide_true, decide_false, bne_self_eq_false, Bool.bne_false, Bool.bne_true, and_self])
/-! ### kinds are the ascending mixtures -/
theorem rise_snoc : ∀ {l : List Int} {x : Int}, riseI l = true → (∀ y ∈ l, y < x) → riseI (l ++ [x]) = true
  | [], x, _, _ => rfl
  | y :: l, x, h, hx => by
    have h' := riseI_cons.mp h
    rw [List.cons_append, riseI_cons]
    refine ⟨fun z hz => ?_, rise_snoc h'.2 fun z hz => hx z (.tail _ hz)⟩
    rw [List.mem_append, List.mem_singleton] at hz
    rcases hz with hz | rfl
    · exact h'.1 z hz
    · exact hx y (.head _)
theorem rise_snoc_inv : ∀ {l : List Int} {x : Int}, riseI (l ++ [x]) = true → riseI l = true ∧ ∀ y ∈ l, y < x
  | [], x, _ => ⟨rfl, fun _ h => by cases h⟩
  | y :: l, x, h => by
    rw [List.cons_append, riseI_cons] at h
    have ih := rise_snoc_inv h.2
    refine ⟨riseI_cons.mpr ⟨fun z hz => h.1 z (List.mem_append_left _ hz), ih.1⟩, fun z hz => ?_⟩
    rcases List.mem_cons.mp hz with rfl | hz
    · exact h.1 x (by simp)
    · exact ih.2 z hz
theorem mem_kindsL : ∀ {n : Nat} {l : List Int}, l ∈ kindsL n ↔ MixR n l
  | 0, l => by
    rw [kindsL, List.mem_singleton]
    constructor
    · rintro rfl; exact ⟨rfl, fun _ h => by cases h⟩
    · rintro ⟨h1, h2⟩
      cases l with
      | nil => rfl
      | cons x l => have := h2 x (.head _); omega
  | n + 1, l => by
    rw [kindsL, List.mem_append, List.mem_map]
    constructor
    · rintro (h | ⟨k, h, rfl⟩)
      · have := mem_kindsL.mp h
        exact ⟨this.1, fun p hp => by have := this.2 p hp; omega⟩
      · have := mem_kindsL.mp h
        refine ⟨rise_snoc this.1 fun y hy => (this.2 y hy).2, fun p hp => ?_⟩
        rw [List.mem_append, List.mem_singleton] at hp
        rcases hp with hp | rfl
        · have := this.2 p hp; omega
        · omega
    · rintro ⟨h1, h2⟩
      by_cases hn : (n : Int) ∈ l
      · right
        rcases List.eq_nil_or_concat l with rfl | ⟨k, x, rfl⟩
        · cases hn
        · rw [List.concat_eq_append] at *
          have h3 := rise_snoc_inv h1
          have hx : x = (n : Int) := by
            rw [List.mem_append, List.mem_singleton] at hn
            rcases hn with hn | hn
            · have a := h3.2 _ hn
              have b := (h2 x (by simp)).2
              omega
            · exact hn.symm
          subst hx
          exact ⟨k, mem_kindsL.mpr ⟨h3.1, fun p hp => ⟨(h2 p (List.mem_append_left _ hp)).1, h3.2 p hp⟩⟩, rfl⟩
      · left
        exact mem_kindsL.mpr ⟨h1, fun p hp => by
          have := h2 p hp
          have : p ≠ n := fun e => hn (e ▸ hp)
          omega⟩
theorem kindsL_cons : ∀ n, ∃ r, kindsL n = [] :: r ∧ [] ∉ r
  | 0 => ⟨[], rfl, by simp⟩
  | n + 1 => by
    obtain ⟨r, h, hr⟩ := kindsL_cons n
    refine ⟨r ++ (kindsL n).map (· ++ [(n : Int)]), by rw [kindsL, h]; rfl, ?_⟩
    simp [hr]
theorem mem_allKinds {n : Nat} {l : List Int} : l ∈ allKinds n ↔ MixOk n l := by
  obtain ⟨r, h, hr⟩ := kindsL_cons n
  have e : allKinds n = r := by unfold allKinds; rw [h]; rfl
  have h2 : l ∈ kindsL n ↔ l = [] ∨ l ∈ r := by rw [h]; simp
  rw [e]
  constructor
  · intro q
    exact ⟨mem_kindsL.mp (h2.mpr (.inr q)), fun z => hr (z ▸ q)⟩
  · rintro ⟨q, z⟩
    rcases h2.mp (mem_kindsL.mpr q) with e | e
    · exact absurd e z
    · exact e
/-! ### colours -/
def closF (ws : List W) (mx : List Int) : List Int := (grownF ws mx).2
theorem at_int {α : Type} {xs : List α} {i : Int} {d : α} (h0 : 0 ≤ i) (h : i.toNat < xs.length) : at_ xs i = some (xs.getD i.toNat d) := by
  unfold at_; rw [if_pos h0, List.getD_eq_getElem?_getD, List.getElem?_eq_getElem h]; rfl
theorem closF_mix {n : Nat} {ws : List W} {mx : List Int} (hf : WsR n ws) (hn : n ≤ 30) (hm : MixR n mx) : MixR n (closF ws mx) ∧ ∀ x ∈ mx, x ∈ closF ws mx := ⟨(grownF_some hf hn hm).2.1, (grownF_some hf hn hm).2.2⟩
theorem eqv_M {a b : List Int} : PyData.eqv (eM a) (eM b) = decide (a = b) := by unfold eM; simp only [PyData.eqv, eqvA_int]
theorem dep_M {x : List Int} : (eM x).depth = 1 := by unfold eM; simp [PyData.depth, depA_int]
theorem depA_M {ks : List (List Int)} : PyData.depthAll (ks.map eM) ≤ 1 := by
  induction ks with
  | nil => simp [PyData.depthAll]
  | cons x r ih => rw [List.map_cons, PyData.depthAll, dep_M]; omega
theorem any_M {ks : List (List Int)} {k : List Int} : ((ks.map eM).any fun z => PyData.eqv z (eM k)) = decide (k ∈ ks) := by
  induction ks with
  | nil => rfl
  | cons x r ih =>
    rw [List.map_cons, List.any_cons, ih, eqv_M]
    by_cases h : k = x <;> simp [h, eq_comm]
theorem c_inM {ks : List (List Int)} {k : List Int} : cmpD .isin (.tuple (k.map .int)) (.list (ks.map eM)) = some (decide (k ∈ ks)) := by
  have := @depA_M ks
  have e : (PyData.tuple (k.map .int)).depth = 1 := dep_M
  unfold cmpD inD; dsimp only; rw [if_pos ⟨by rw [e]; decide, by rw [PyData.depth]; omega⟩]
  exact congrArg some any_M
theorem tupsOf_map : ∀ {ts : List (List Int)}, tupsOf (ts.map eM) = some ts
  | [] => rfl
  | t :: r => by rw [List.map_cons]; unfold eM; rw [tupsOf, intsOf_map]; have := @tupsOf_map r; unfold eM at this; rw [this]
theorem intsOf_M {t : List Int} {r : List (List Int)} : intsOf ((t :: r).map eM) = none := rfl
theorem sorted_M {ts : List (List Int)} (hl : ts.length < 64) (ho : tOk ts = true) : sortedD (ts.map eM) = some ((sortT ts).map eM) := by
  unfold sortedD
  rw [List.length_map, if_pos hl]
  cases ts with
  | nil => rfl
  | cons t r => rw [intsOf_M]; dsimp only; rw [tupsOf_map]; dsimp only; rw [if_pos ho]; rfl
theorem len_insT {x : List Int} : ∀ {l : List (List Int)}, (insT x l).length = l.length + 1
  | [] => rfl
  | y :: l => by rw [insT]; split <;> simp [len_insT]
theorem len_sortT : ∀ {l : List (List Int)}, (sortT l).length = l.length
  | [] => rfl
  | x :: l => by rw [sortT, len_insT, len_sortT]; rfl
theorem mem_dedT {y : List Int} : ∀ {l : List (List Int)}, y ∈ dedT l ↔ y ∈ l
  | [] => by simp [dedT]
  | x :: l => by
    rw [dedT]; split
    · rename_i h; rw [mem_dedT (l := l), List.mem_cons]
      exact ⟨.inr, fun q => q.elim (fun e => e ▸ h) id⟩
    · rw [List.mem_cons, List.mem_cons, mem_dedT (l := l)]
theorem sset_M0 {ts : List (List Int)} (hl : ts.length < 64) : ssetD (.list (ts.map eM)) = some ((sortT (dedT ts)).map eM) := by
  unfold ssetD
  dsimp only
  rw [List.length_map, if_pos hl]
  cases ts with
  | nil => rfl
  | cons t r =>
    rw [intsOf_M]; dsimp only; rw [tupsOf_map]; dsimp only
    rw [if_pos]
    · rfl
    · rfl
theorem sset_M {ts : List (List Int)} (hl : ts.length < 64) (ho : ∀ t ∈ ts, t ≠ []) : ssetD (.list (ts.map eM)) = some ((sortT (dedT ts)).map eM) := sset_M0 hl
def partsF (mx : List Int) : List (List Int) := ((allKinds mx.length).map fun k => k.map fun a => mx.getD a.toNat 0).dropLast
def leastF (n : Nat) (ws : List W) (mx : List Int) : List (List Int) :=
  let some_ := (allKinds n).filter fun k => decide (closF ws k = closF ws mx)
  sortT (some_.filter fun k => (partsF k).all fun q => !decide (q ∈ some_))
def countF (n : Nat) (ws : List W) : Nat := (sortT (dedT ((allKinds n).map (closF ws)))).length
def spareP (ws : List W) (p : Nat) : Bool :=
  let goal := closF ws [(p : Int)]
  let others := goal.filter fun q => !decide (q = (p : Int))
  !others.isEmpty && decide (closF ws others = goal)
def spareF (n : Nat) (ws : List W) : List Nat := (List.range n).filter (spareP ws)
def foundC (n : Nat) (ws : List W) (wn : List (List Int)) : List (List Int) := (allKinds n).filter fun k => wn.all fun o => hasAll (closF ws k) o
def minL (l : List (List Int)) : Nat := match l with
  | [] => 0
  | x :: r => (minI x.length (r.map fun k => (k.length : Int))).toNat
def coverF (n : Nat) (ws : List W) (wn : List (List Int)) : List (List Int) :=
  sortT ((foundC n ws wn).filter fun k => decide ((k.length : Int) = minL (foundC n ws wn)))
theorem minI_nat : ∀ {r : List Nat} {x : Nat}, ∃ k : Nat, minI x (r.map fun k : Nat => (k : Int)) = k
  | [], x => ⟨x, rfl⟩
  | y :: r, x => by
    unfold minI
    rw [List.map_cons, List.foldl_cons]
    split
    · exact minI_nat (r := r) (x := y)
    · exact minI_nat (r := r) (x := x)
section
variable {N : Nat} {m : Mem} {n : Nat} {ws : List W} {mx : List Int}
end
end Tn

set_option maxRecDepth 100000
namespace Tn
open PySem
/-! ### closed lots of paints -/
def Sub (a b : List Int) : Prop := ∀ x ∈ a, x ∈ b
theorem Sub.refl (a : List Int) : Sub a a := fun _ h => h
theorem Sub.trans {a b c : List Int} (h : Sub a b) (h' : Sub b c) : Sub a c := fun x hx => h' x (h x hx)
theorem hasAll_iff {mx pt : List Int} : hasAll mx pt = true ↔ Sub pt mx := by
  unfold hasAll Sub
  simp only [List.all_eq_true, decide_eq_true_eq]
theorem sub_join {a b c : List Int} : Sub (joinF a b) c ↔ Sub a c ∧ Sub b c := by
  constructor
  · intro h; exact ⟨fun x hx => h x (mem_joinF.mpr (.inl hx)), fun x hx => h x (mem_joinF.mpr (.inr hx))⟩
  · rintro ⟨h1, h2⟩ x hx
    exact (mem_joinF.mp hx).elim (h1 x) (h2 x)
/-- closed by the facts "same" and "covers" -/
def Cld (ws : List W) (S : List Int) : Prop := ∀ w ∈ ws, (w.wd = .same ∨ w.wd = .covers → Sub w.a S → Sub w.b S) ∧ (w.wd = .same → Sub w.b S → Sub w.a S)
/-- the least closed lot with a mixture -/
structure IsCl (n : Nat) (ws : List W) (mx l : List Int) : Prop where
  mix : MixR n l
  sup : Sub mx l
  cld : Cld ws l
  least : ∀ S, Sub mx S → Cld ws S → Sub l S
theorem IsCl.uniq {n : Nat} {ws : List W} {mx l l' : List Int} (h : IsCl n ws mx l) (h' : IsCl n ws mx l') : l = l' :=
  rise_ext h.mix.1 h'.mix.1 fun y => ⟨fun q => h.least l' h'.sup h'.cld y q, fun q => h'.least l h.sup h.cld y q⟩
theorem IsCl.mono {n : Nat} {ws : List W} {a b l l' : List Int} (h : IsCl n ws a l) (h' : IsCl n ws b l') : Sub l l' ↔ Sub a l' :=
  ⟨fun q => h.sup.trans q, fun q => h.least l' q h'.cld⟩
/-! growing comes to it -/
def NoBare (ws : List W) : Prop := ∀ w ∈ ws, w.wd ≠ .bares
theorem gone_least {ws : List W} (nb : NoBare ws) {mx l S : List Int} {i : Nat} {b : Bool} (h : goneF ws mx i b = some l) (hs : Sub mx S) (hc : Cld ws S) : Sub l S := by
  unfold goneF at h
  cases q : ws[i]? with
  | none => rw [q] at h; cases h
  | some w =>
    rw [q] at h
    dsimp only at h
    have hm := List.mem_of_getElem? q
    have hw := hc w hm
    have hnb := nb w hm
    split at h
    · cases h
    · rename_i hn
      by_cases hq : hasAll mx (if b = true then w.a else w.b) = true
      · rw [if_pos hq] at h; cases h
        rw [sub_join]
        refine ⟨hs, ?_⟩
        rw [hasAll_iff] at hq
        cases b
        · simp only [Bool.false_eq_true, if_false] at hq ⊢
          refine hw.2 ?_ (hq.trans hs)
          cases hwd : w.wd
          · rfl
          · exact absurd (Or.inr ⟨hwd, rfl⟩) hn
          · exact absurd (Or.inl hwd) hn
          · exact absurd hwd hnb
        · simp only [if_true] at hq ⊢
          refine hw.1 ?_ (hq.trans hs)
          cases hwd : w.wd
          · exact .inl rfl
          · exact .inr rfl
          · exact absurd (Or.inl hwd) hn
          · exact absurd hwd hnb
      · rw [if_neg hq] at h; cases h
theorem stp_least {ws : List W} (nb : NoBare ws) {s : Chn × List Int} {p : Nat × Bool} {S : List Int} (hs : Sub s.2 S) (hc : Cld ws S) : Sub (stp ws s p).2 S := by
  unfold stp
  split
  · exact hs
  · rename_i l e
    split
    · exact hs
    · exact gone_least nb e hs hc
theorem rndK_least {ws : List W} (nb : NoBare ws) {s : Chn × List Int} {S : List Int} (hs : Sub s.2 S) (hc : Cld ws S) : ∀ k, Sub (rndK ws k s).2 S
  | 0 => hs
  | k + 1 => by rw [rndK_succ]; exact stp_least nb (stp_least nb (rndK_least nb hs hc k) hc) hc
theorem growN_least {ws : List W} (nb : NoBare ws) {S : List Int} (hc : Cld ws S) : ∀ (k : Nat) (s r : Chn × List Int), Sub s.2 S → growN ws k s = some r → Sub r.2 S
  | 0, s, r, _, h => by cases h
  | k + 1, s, r, hs, h => by
    rw [growN] at h
    have e0 : rndK ws ws.length s = rnd ws s := rfl
    have hr := rndK_least nb hs hc ws.length
    rw [e0] at hr
    split at h
    · cases h; exact hr
    · exact growN_least nb hc k _ r hr h
/-- a round that changes nothing: each step changes nothing -/
theorem stp_same {n : Nat} {ws : List W} {s : Chn × List Int} {p : Nat × Bool} (hf : WsR n ws) (hm : MixR n s.2) (h : Sub (stp ws s p).2 s.2) : ∀ l, goneF ws s.2 p.1 p.2 = some l → l = s.2 := by
  intro l e
  unfold stp at h
  rw [e] at h
  dsimp only at h
  by_cases q : l = s.2
  · exact q
  · rw [if_neg q] at h
    exact rise_ext (goneF_mix hf hm e).1 hm.1 fun y => ⟨h y, gone_sub e y⟩
theorem rndK_mono {ws : List W} {s : Chn × List Int} : ∀ {k k' : Nat}, k ≤ k' → Sub (rndK ws k s).2 (rndK ws k' s).2
  | k, 0, h => by have : k = 0 := by omega
                  subst this; exact Sub.refl _
  | k, k' + 1, h => by
    by_cases q : k = k' + 1
    · subst q; exact Sub.refl _
    · rw [rndK_succ]
      exact (rndK_mono (k := k) (k' := k') (by omega)).trans fun x hx => stp_sub _ (stp_sub _ hx)
theorem rnd_fix {n : Nat} {ws : List W} (hf : WsR n ws) {s : Chn × List Int} (hm : MixR n s.2) (h : (rnd ws s).2 = s.2) : Cld ws s.2 := by
  have e0 : rndK ws ws.length s = rnd ws s := rfl
  have all : ∀ k ≤ ws.length, (rndK ws k s).2 = s.2 := fun k hk => by
    refine rise_ext (rndK_mix hf hm k).1.1 hm.1 fun y => ⟨fun q => ?_, rndK_sub k y⟩
    have := rndK_mono (ws := ws) (s := s) hk y q
    rw [e0, h] at this
    exact this
  intro w hw
  obtain ⟨i, hi, rfl⟩ := List.mem_iff_getElem.mp hw
  have a1 := all i (by omega)
  have a2 := all (i + 1) (by omega)
  have m1 := (rndK_mix hf hm i).1
  rw [rndK_succ] at a2
  have m2 := (stp_mix (p := (i, true)) hf m1).1
  have s1 : Sub (stp ws (rndK ws i s) (i, true)).2 (rndK ws i s).2 := by
    rw [a1, ← a2]
    exact fun x hx => stp_sub _ hx
  have g1 := stp_same hf m1 s1
  have a3 : (stp ws (rndK ws i s) (i, true)).2 = s.2 := by
    rw [← a1]
    exact rise_ext m2.1 m1.1 fun y => ⟨s1 y, stp_sub y⟩
  have s2 : Sub (stp ws (stp ws (rndK ws i s) (i, true)) (i, false)).2 (stp ws (rndK ws i s) (i, true)).2 := by
    rw [a2, a3]; exact Sub.refl _
  have g2 := stp_same hf m2 s2
  rw [a1] at g1
  rw [a3] at g2
  have ei : ws[i]? = some ws[i] := List.getElem?_eq_getElem hi
  constructor
  · intro hwd ha
    have hn : ¬ (ws[i].wd = .unlike ∨ (ws[i].wd = .covers ∧ true = false)) := by
      rcases hwd with q | q <;> simp [q]
    have := g1 (joinF s.2 ws[i].b) (by
      unfold goneF; rw [ei]; dsimp only
      rw [if_neg hn, if_pos (by rw [hasAll_iff]; simpa using ha)]; rfl)
    exact fun x hx => by rw [← this]; exact mem_joinF.mpr (.inr hx)
  · intro hwd ha
    have hn : ¬ (ws[i].wd = .unlike ∨ (ws[i].wd = .covers ∧ false = false)) := by
      simp [hwd]
    have := g2 (joinF s.2 ws[i].a) (by
      unfold goneF; rw [ei]; dsimp only
      rw [if_neg hn, if_pos (by rw [hasAll_iff]; simpa using ha)]; rfl)
    exact fun x hx => by rw [← this]; exact mem_joinF.mpr (.inr hx)
theorem growN_fix {n : Nat} {ws : List W} (hf : WsR n ws) : ∀ (k : Nat) (s r : Chn × List Int), MixR n s.2 → growN ws k s = some r → Cld ws r.2
  | 0, s, r, _, h => by cases h
  | k + 1, s, r, hm, h => by
    rw [growN] at h
    have e0 : rndK ws ws.length s = rnd ws s := rfl
    have hr := (rndK_mix hf hm ws.length).1
    rw [e0] at hr
    split at h
    · rename_i q
      cases h
      rw [q]
      exact rnd_fix hf hm q
    · exact growN_fix hf k _ r hr h
theorem closF_is {n : Nat} {ws : List W} (hf : WsR n ws) (hn : n ≤ 30) (nb : NoBare ws) {mx : List Int} (hm : MixR n mx) : IsCl n ws mx (closF ws mx) := by
  obtain ⟨h1, h2, h3⟩ := grownF_some hf hn hm
  exact ⟨h2, h3, growN_fix hf 99 _ _ hm h1, fun S hs hc => growN_least nb hc 99 _ _ hs h1⟩
/-! ### closed lots and kinds -/
theorem meets_iff {k m : List Int} : meetsF k m = true ↔ ∃ p ∈ m, p ∈ k := by
  unfold meetsF; simp [List.any_eq_true]
/-- is a hue of that kind, with all the paints outside a closed lot -/
def compl (n : Nat) (S : List Int) : List Int := ((List.range n).map fun i : Nat => (i : Int)).filter fun p => !decide (p ∈ S)
theorem mem_compl {n : Nat} {S : List Int} {p : Int} : p ∈ compl n S ↔ (0 ≤ p ∧ p < (n : Int)) ∧ p ∉ S := by
  unfold compl
  rw [List.mem_filter, List.mem_map]
  simp only [Bool.not_eq_true', decide_eq_false_iff_not, List.mem_range]
  constructor
  · rintro ⟨⟨a, ha, rfl⟩, h⟩; exact ⟨⟨by omega, by omega⟩, h⟩
  · rintro ⟨⟨h1, h2⟩, h⟩; exact ⟨⟨p.toNat, by omega, by omega⟩, h⟩
theorem rise_filter {p : Int → Bool} : ∀ {l : List Int}, riseI l = true → riseI (l.filter p) = true
  | [], _ => rfl
  | x :: l, h => by
    have h' := riseI_cons.mp h
    by_cases q : p x = true
    · rw [List.filter_cons_of_pos q, riseI_cons]
      exact ⟨fun y hy => h'.1 y (List.mem_filter.mp hy).1, rise_filter h'.2⟩
    · rw [List.filter_cons_of_neg q]; exact rise_filter h'.2
theorem rise_range {n : Nat} : riseI ((List.range n).map fun i : Nat => (i : Int)) = true := by
  induction n with
  | zero => rfl
  | succ n ih =>
    rw [List.range_succ, List.map_append]
    exact rise_snoc ih fun y hy => by obtain ⟨z, hz, rfl⟩ := List.mem_map.mp hy; rw [List.mem_range] at hz; show (z : Int) < (n : Int); omega
theorem compl_mix {n : Nat} {S : List Int} : MixR n (compl n S) := ⟨rise_filter rise_range, fun p hp => (mem_compl.mp hp).1⟩
theorem meets_compl {n : Nat} {S m : List Int} (hm : ∀ p ∈ m, 0 ≤ p ∧ p < (n : Int)) : meetsF (compl n S) m = true ↔ ¬ Sub m S := by
  rw [meets_iff]
  constructor
  · rintro ⟨p, hp, hk⟩ h
    exact (mem_compl.mp hk).2 (h p hp)
  · intro h
    have : ∃ p ∈ m, p ∉ S := by
      refine Classical.byContradiction fun q => h fun x hx => Classical.byContradiction fun z => q ⟨x, hx, z⟩
    obtain ⟨p, hp, hs⟩ := this
    exact ⟨p, hp, mem_compl.mpr ⟨hm p hp, hs⟩⟩
theorem nmeets_iff {n : Nat} {k m : List Int} (hm : ∀ p ∈ m, 0 ≤ p ∧ p < (n : Int)) : meetsF k m = false ↔ Sub m (compl n k) := by
  rw [← Bool.not_eq_true, meets_iff]
  constructor
  · intro h x hx
    exact mem_compl.mpr ⟨hm x hx, fun q => h ⟨x, hx, q⟩⟩
  · rintro h ⟨p, hp, hk⟩
    exact (mem_compl.mp (h p hp)).2 hk
/-- no hue of the kind parts a calm wish -/
def calmK (ws : List W) (k : List Int) : Prop := ∀ w ∈ ws, isCalm w = true → partF k w = false
theorem calm_same {w : W} : isCalm w = true ↔ w.wd = .same ∨ w.wd = .covers := by
  unfold isCalm; simp
theorem part_cov {k : List Int} {w : W} (h : w.wd = .covers ∨ w.wd = .bares) : partF k w = (meetsF k w.b && !meetsF k w.a) := by
  unfold partF; rw [if_pos (by simpa using h)]
theorem part_eq {k : List Int} {w : W} (h : w.wd = .same ∨ w.wd = .unlike) : partF k w = (meetsF k w.a != meetsF k w.b) := by
  unfold partF; rw [if_neg (by rcases h with q | q <;> simp [q])]
theorem calmK_iff {n : Nat} {ws : List W} (hf : WsR n ws) {k : List Int} : calmK ws k ↔ Cld ws (compl n k) := by
  have key : ∀ w ∈ ws, (isCalm w = true → partF k w = false) ↔ ((w.wd = .same ∨ w.wd = .covers → Sub w.a (compl n k) → Sub w.b (compl n k)) ∧ (w.wd = .same → Sub w.b (compl n k) → Sub w.a (compl n k))) := fun w hw => by
    have ha := nmeets_iff (k := k) (hf w hw).1.2
    have hb := nmeets_iff (k := k) (hf w hw).2.2
    rw [← ha, ← hb, calm_same]
    cases hwd : w.wd with
    | same =>
      rw [part_eq (.inl hwd)]
      cases meetsF k w.a <;> cases meetsF k w.b <;> simp
    | covers =>
      rw [part_cov (.inl hwd)]
      cases meetsF k w.a <;> cases meetsF k w.b <;> simp
    | unlike => simp
    | bares => simp
  exact ⟨fun h w hw => (key w hw).mp (h w hw), fun h w hw => (key w hw).mpr (h w hw)⟩
theorem compl_compl {n : Nat} {S : List Int} (hS : MixR n S) : compl n (compl n S) = S := by
  refine rise_ext compl_mix.1 hS.1 fun y => ?_
  rw [mem_compl, mem_compl]
  constructor
  · rintro ⟨h1, h2⟩
    exact Classical.byContradiction fun q => h2 ⟨h1, q⟩
  · intro h; exact ⟨hS.2 y h, fun q => q.2 h⟩
theorem mem_calmKinds {n : Nat} {ws : List W} {k : List Int} : k ∈ calmKinds n ws ↔ MixOk n k ∧ calmK ws k := by
  unfold calmKinds calmK
  rw [List.mem_filter, mem_allKinds]
  simp only [Bool.not_eq_true', List.any_eq_false, List.mem_filter, Bool.not_eq_true, and_imp]
/-- one mixture is within the closing of another if and only if no hue shows otherwise -/
theorem sub_cl {n : Nat} {ws : List W} (hf : WsR n ws) {a b l : List Int} (ha : MixR n a) (hb : ∀ p ∈ b, 0 ≤ p ∧ p < (n : Int)) (hl : IsCl n ws a l) :
    Sub b l ↔ ∀ k ∈ calmKinds n ws, meetsF k b = true → meetsF k a = true := by
  constructor
  · intro h k hk hm
    have hc := (calmK_iff hf).mp (mem_calmKinds.mp hk).2
    refine Classical.byContradiction fun q => ?_
    rw [Bool.not_eq_true] at q
    have h1 := (nmeets_iff ha.2).mp q
    have h2 := hl.least _ h1 hc
    have h3 := (nmeets_iff hb).mpr (h.trans h2)
    rw [h3] at hm; cases hm
  · intro h
    refine Classical.byContradiction fun q => ?_
    have h1 := (meets_compl (S := l) hb).mpr q
    have hk : compl n l ∈ calmKinds n ws := by
      rw [mem_calmKinds]
      refine ⟨⟨compl_mix, fun z => ?_⟩, ?_⟩
      · rw [z, meets_iff] at h1
        obtain ⟨p, _, hp⟩ := h1
        cases hp
      · rw [calmK_iff hf, compl_compl hl.mix]
        exact hl.cld
    have h2 := h _ hk h1
    rw [meets_compl ha.2] at h2
    exact h2 hl.sup
theorem cl_eq_iff {n : Nat} {ws : List W} (hf : WsR n ws) {a b la lb : List Int} (ha : MixR n a) (hb : MixR n b) (hla : IsCl n ws a la) (hlb : IsCl n ws b lb) :
    la = lb ↔ ∀ k ∈ calmKinds n ws, meetsF k a = meetsF k b := by
  have e1 := sub_cl hf ha hb.2 hla
  have e2 := sub_cl hf hb ha.2 hlb
  constructor
  · intro h k hk
    have h1 := e1.mp (h ▸ hlb.sup) k hk
    have h2 := e2.mp (h ▸ hla.sup) k hk
    cases q1 : meetsF k a <;> cases q2 : meetsF k b <;> simp_all
  · intro h
    have h1 := e1.mpr fun k hk q => by rw [h k hk]; exact q
    have h2 := e2.mpr fun k hk q => by rw [← h k hk]; exact q
    exact rise_ext hla.mix.1 hlb.mix.1 fun y => ⟨fun q => hla.least lb h2 hlb.cld y q, fun q => hlb.least la h1 hla.cld y q⟩
/-! ### can wishes be so? -/
theorem mapM_some {α β : Type} {f : α → Option β} : ∀ {l : List α}, (l.mapM f).isSome = true ↔ ∀ x ∈ l, (f x).isSome = true
  | [] => by simp
  | x :: l => by
    rw [List.mapM_cons]
    have ih := mapM_some (f := f) (l := l)
    cases h1 : f x with
    | none => simp [h1]
    | some y =>
      cases h2 : l.mapM f with
      | none =>
        rw [h2] at ih
        have : ¬ ∀ x ∈ l, (f x).isSome = true := fun q => by have := ih.mpr q; cases this
        constructor
        · intro q; cases q
        · intro q; exact absurd (fun z hz => q z (.tail _ hz)) this
      | some z =>
        rw [h2] at ih
        constructor
        · intro _ v hv
          rcases List.mem_cons.mp hv with rfl | hv
          · rw [h1]; rfl
          · exact ih.mp rfl v hv
        · intro _; rfl
theorem canF_iff {n : Nat} {ws : List W} : canF n ws = true ↔ ∀ w ∈ ws, isCalm w = false → ∃ k ∈ calmKinds n ws, partF k w = true := by
  unfold canF chosenF
  rw [mapM_some]
  constructor
  · intro h w hw hc
    have := h w (List.mem_filter.mpr ⟨hw, by rw [hc]; rfl⟩)
    rw [List.find?_isSome] at this
    exact this
  · intro h w hw
    obtain ⟨h1, h2⟩ := List.mem_filter.mp hw
    rw [List.find?_isSome]
    exact h w h1 (by cases q : isCalm w <;> simp_all)
/-- by closings, as the laws have it -/
theorem can_cl {n : Nat} {ws : List W} (hf : WsR n ws) (cl : List Int → List Int) (hcl : ∀ m, MixR n m → IsCl n ws m (cl m)) :
    canF n ws = true ↔ ∀ w ∈ ws, (w.wd = .unlike → cl w.a ≠ cl w.b) ∧ (w.wd = .bares → ¬ Sub w.b (cl w.a)) := by
  rw [canF_iff]
  have key : ∀ w ∈ ws, (isCalm w = false → ∃ k ∈ calmKinds n ws, partF k w = true) ↔ ((w.wd = .unlike → cl w.a ≠ cl w.b) ∧ (w.wd = .bares → ¬ Sub w.b (cl w.a))) := fun w hw => by
    have ha := (hf w hw).1
    have hb := (hf w hw).2
    cases hwd : w.wd with
    | same => simp [isCalm, hwd]
    | covers => simp [isCalm, hwd]
    | unlike =>
      have e := cl_eq_iff hf ha hb (hcl _ ha) (hcl _ hb)
      constructor
      · intro h
        refine ⟨fun _ z => ?_, fun z => by cases z⟩
        obtain ⟨k, hk, hp⟩ := h (by simp [isCalm, hwd])
        rw [part_eq (.inr hwd), e.mp z k hk] at hp
        simp at hp
      · intro h _
        refine Classical.byContradiction fun q => h.1 rfl (e.mpr fun k hk => Classical.byContradiction fun z => q ⟨k, hk, ?_⟩)
        rw [part_eq (.inr hwd)]
        simpa using z
    | bares =>
      have e := sub_cl hf ha hb.2 (hcl _ ha)
      constructor
      · intro h
        refine ⟨(fun z => by cases z), fun _ z => ?_⟩
        obtain ⟨k, hk, hp⟩ := h (by simp [isCalm, hwd])
        rw [part_cov (.inr hwd)] at hp
        simp only [Bool.and_eq_true, Bool.not_eq_true'] at hp
        have := e.mp z k hk hp.1
        rw [this] at hp
        cases hp.2
      · intro h _
        refine Classical.byContradiction fun q => h.2 rfl (e.mpr fun k hk hm => Classical.byContradiction fun z => q ⟨k, hk, ?_⟩)
        rw [part_cov (.inr hwd), hm]
        simpa using z
  exact ⟨fun h w hw => (key w hw).mp (h w hw), fun h w hw => (key w hw).mpr (h w hw)⟩
/-! ### lots of kinds: all paints -/
/-- whether a wish is so with paints whose hues are of these kinds -/
def satL (L : List (List Int)) (w : W) : Bool := if isCalm w then L.all (fun k => !partF k w) else L.any fun k => partF k w
theorem part_neg {k : List Int} {w : W} : partF k w.neg = partF k w := by
  unfold partF W.neg Wd.neg
  cases h : w.wd <;> rfl
theorem calm_neg {w : W} : isCalm w.neg = !isCalm w := by
  unfold isCalm W.neg Wd.neg
  cases h : w.wd <;> rfl
theorem sat_neg {L : List (List Int)} {w : W} : satL L w.neg = !satL L w := by
  unfold satL
  rw [calm_neg]
  simp only [part_neg]
  cases isCalm w with
  | true => simp [List.not_all_eq_any_not]
  | false => simp [List.not_any_eq_all_not]
theorem sat_mono {L L' : List (List Int)} (h : ∀ k, k ∈ L ↔ k ∈ L') (w : W) : satL L w = satL L' w := by
  unfold satL
  split
  · rw [Bool.eq_iff_iff, List.all_eq_true, List.all_eq_true]
    exact ⟨fun q k hk => q k ((h k).mpr hk), fun q k hk => q k ((h k).mp hk)⟩
  · rw [Bool.eq_iff_iff, List.any_eq_true, List.any_eq_true]
    exact ⟨fun ⟨k, hk, q⟩ => ⟨k, (h k).mp hk, q⟩, fun ⟨k, hk, q⟩ => ⟨k, (h k).mpr hk, q⟩⟩
def goodL (ws : List W) (L : List (List Int)) : Prop := ∀ w ∈ ws, satL L w = true
/-- the greatest lot of kinds -/
theorem can_good {n : Nat} {ws : List W} : canF n ws = true ↔ goodL ws (calmKinds n ws) := by
  rw [canF_iff]
  unfold goodL satL
  constructor
  · intro h w hw
    split
    · rename_i hc
      rw [List.all_eq_true]
      intro k hk
      rw [(mem_calmKinds.mp hk).2 w hw hc]; rfl
    · rename_i hc
      rw [List.any_eq_true]
      exact h w hw (by simpa using hc)
  · intro h w hw hc
    have := h w hw
    rw [if_neg (by rw [hc]; decide), List.any_eq_true] at this
    exact this
theorem good_sub {n : Nat} {ws : List W} {L : List (List Int)} (hL : ∀ k ∈ L, MixOk n k) (h : goodL ws L) : ∀ k ∈ L, k ∈ calmKinds n ws := fun k hk => by
  rw [mem_calmKinds]
  refine ⟨hL k hk, fun w hw hc => ?_⟩
  have := h w hw
  unfold satL at this
  rw [if_pos hc, List.all_eq_true] at this
  simpa using this k hk
theorem can_iff_good {n : Nat} {ws : List W} : canF n ws = true ↔ ∃ L, (∀ k ∈ L, MixOk n k) ∧ goodL ws L := by
  constructor
  · intro h
    exact ⟨calmKinds n ws, fun k hk => (mem_calmKinds.mp hk).1, can_good.mp h⟩
  · rintro ⟨L, hL, h⟩
    rw [canF_iff]
    intro w hw hc
    have := h w hw
    unfold satL at this
    rw [if_neg (by rw [hc]; decide), List.any_eq_true] at this
    obtain ⟨k, hk, hp⟩ := this
    exact ⟨k, good_sub hL h k hk, hp⟩
theorem good_add {ws : List W} {w : W} {L : List (List Int)} : goodL (ws ++ [w]) L ↔ goodL ws L ∧ satL L w = true := by
  unfold goodL
  constructor
  · intro h; exact ⟨fun x hx => h x (List.mem_append_left _ hx), h w (by simp)⟩
  · rintro ⟨h1, h2⟩ x hx
    rw [List.mem_append, List.mem_singleton] at hx
    rcases hx with hx | rfl
    · exact h1 x hx
    · exact h2
/-- what is known, by all good lots of kinds -/
theorem known_none {n : Nat} {ws : List W} {w : W} (h : canF n ws = false) : knownF n ws w = none := by
  unfold knownF; rw [h]; rfl
theorem known_true {n : Nat} {ws : List W} {w : W} : knownF n ws w = some true ↔ canF n ws = true ∧ ∀ L, (∀ k ∈ L, MixOk n k) → goodL ws L → satL L w = true := by
  have e : canF n (ws ++ [w.neg]) = true ↔ ∃ L, (∀ k ∈ L, MixOk n k) ∧ goodL ws L ∧ satL L w = false := by
    rw [can_iff_good]
    constructor
    · rintro ⟨L, h1, h2⟩; obtain ⟨h2, h3⟩ := good_add.mp h2; exact ⟨L, h1, h2, by rw [sat_neg] at h3; simpa using h3⟩
    · rintro ⟨L, h1, h2, h3⟩; exact ⟨L, h1, good_add.mpr ⟨h2, by rw [sat_neg, h3]; rfl⟩⟩
  unfold knownF
  cases hc : canF n ws with
  | false => simp
  | true =>
    cases hn : canF n (ws ++ [w.neg]) with
    | false =>
      simp only [Bool.false_eq_true, if_false, if_true, true_and]
      refine ⟨fun _ L h1 h2 => ?_, fun _ => trivial⟩
      cases q : satL L w with
      | true => rfl
      | false => rw [e.mpr ⟨L, h1, h2, q⟩] at hn; cases hn
    | true =>
      obtain ⟨L, h1, h2, h3⟩ := e.mp hn
      simp only [if_true]
      constructor
      · intro h; split at h <;> cases h
      · rintro ⟨_, h⟩; rw [h L h1 h2] at h3; cases h3
theorem known_false {n : Nat} {ws : List W} {w : W} : knownF n ws w = some false ↔ canF n ws = true ∧ ∀ L, (∀ k ∈ L, MixOk n k) → goodL ws L → satL L w = false := by
  have e : canF n (ws ++ [w.neg]) = true ↔ ∃ L, (∀ k ∈ L, MixOk n k) ∧ goodL ws L ∧ satL L w = false := by
    rw [can_iff_good]
    constructor
    · rintro ⟨L, h1, h2⟩; obtain ⟨h2, h3⟩ := good_add.mp h2; exact ⟨L, h1, h2, by rw [sat_neg] at h3; simpa using h3⟩
    · rintro ⟨L, h1, h2, h3⟩; exact ⟨L, h1, good_add.mpr ⟨h2, by rw [sat_neg, h3]; rfl⟩⟩
  have e2 : canF n (ws ++ [w]) = true ↔ ∃ L, (∀ k ∈ L, MixOk n k) ∧ goodL ws L ∧ satL L w = true := by
    rw [can_iff_good]
    constructor
    · rintro ⟨L, h1, h2⟩; obtain ⟨h2, h3⟩ := good_add.mp h2; exact ⟨L, h1, h2, h3⟩
    · rintro ⟨L, h1, h2, h3⟩; exact ⟨L, h1, good_add.mpr ⟨h2, h3⟩⟩
  unfold knownF
  cases hc : canF n ws with
  | false => simp
  | true =>
    obtain ⟨L0, a1, a2⟩ := can_iff_good.mp hc
    cases hn : canF n (ws ++ [w.neg]) with
    | false =>
      simp only [Bool.false_eq_true, if_false, if_true, true_and]
      constructor
      · intro h; cases h
      · intro h
        have := h L0 a1 a2
        rw [e.mpr ⟨L0, a1, a2, this⟩] at hn; cases hn
    | true =>
      cases hp : canF n (ws ++ [w]) with
      | true =>
        obtain ⟨L, h1, h2, h3⟩ := e2.mp hp
        simp only [if_true, true_and]
        constructor
        · intro h; cases h
        · intro h; rw [h L h1 h2] at h3; cases h3
      | false =>
        simp only [Bool.false_eq_true, if_false, if_true, true_and]
        refine ⟨fun _ L h1 h2 => ?_, fun _ => trivial⟩
        cases q : satL L w with
        | false => rfl
        | true => rw [e2.mpr ⟨L, h1, h2, q⟩] at hp; cases hp
end Tn

set_option maxRecDepth 100000
namespace Tn
open PySem
local macro_rules | `(tactic| simp_arith [$ls,*]) => `(tactic| simp (disch := first | assumption | omega | rfl | decide) only [$ls,*, runF_mk, LIM_eq, fLK_s, fL_nil, apE_o, x_sti, e_glo, gloK_s, e_cav, cvK_f, kdK_s, kdL_s, e_kdc, newK_o, len_rng, initE_eq, fin_nx, fin_rt, fin_ex, fin_ite, bind_ok, bind_ex, bind_no, bind_ite, of_ok, of_ex, of_no, of_ite, seq_nx, seq_rt, seq_ex, seq_no, seq_ite, bd_d, bd_own, bd_p, bd_ex, bd_ite, lift_some, lift_none, lift_ite, map_some, map_none, opd_d, opd_own, opd_p, toD_d, toD_own, md_nil, md_d, md_own, ma_nil, ma_d, ma_own, ma_h, ma_f, ma_s, mo_nil, mo_d, mo_own, mo_p, e_var, v_own, v_d, v_h, v_f, v_s, e_cst, e_fnr, e_pow, e_bin, e_neg, negI, e_cmp, e_chn, chK_b, e_isn, nn_none, nn_bool, nn_int, nn_str, nn_tup, nn_list, nn_own, nn_p, e_isb, bk_b, bk_n, e_ands, e_ors, e_not, bK_b, e_ite, noP_d, noP_own, noP_ex, noP_ite, e_tup, e_lst, tupK_s, lstK_s, e_idx, ixK_d, ixK_own, ixK_p, ixK_h, ixK_s, memK_s, e_slo, e_shi, e_rev, e_call, clK_s, e_blt, bl2_s, bl2_d, bl2_own, bl2_p, blO_s, e_isi, e_sse, e_lrg, e_trg, e_cm1, cmK_ok, e_cm2, cmK2_ok, e_ler, e_tnot, tnK_b, tnK_i, x_frz, bi_addB, bi_subB, bl_strb, lerK_ok, lerK_ex, lerO_s, lerK_ite, s_nil, s_cons, a_one, a_cons, o_one, o_cons, t_nil, t_cons, tK_b, i_dat, datK_t, datK_l, datK_o, datK_p, i_rng, i_rng2, rng2K_i, rngK_i, i_enm, enm2_t, enm2_l, enm2_o, enm2_p, i_fns, bT_one, bT_onef, bT_tup, x_asg, setS_d, setS_o, setS_f, x_asgs, setK_s, sA_nil, sA_d, sA_o, x_unp, x_newh, appK_s, x_app, x_exp, x_retv, x_ret, rtK_d, rtK_o, x_retN, x_ifs, ifK_b, x_whl, x_fr, x_rai, x_raiv, raK_i, b_nil, b_cons, b_dct, dcK_s, dcO_ok, frz_e, frz_v, frz_ev, frz_r, frz_r2, frz_f, fz_eq, fzK_d, fzK_o, wipe_nil, wipe_cons, c_lt, c_le, c_gt, c_ge, c_eqi, c_nei, c_eqs, c_nes, c_eqb, c_neb, c_eqn, c_nen, c_eqtn, c_netn, bi_add, bi_sub, bi_addt, bi_addl, bi_adds, bl_lent, bl_lenl, bl_tup, bl_int, bl_bool, bl_abs, bl_min, bl_max, ix_t, ix_l, at_0, at_1, at_2, at_3, at_4, isiD, dbl_eq, ite_okb, ite_okB, ite_tb, ite_bt, ite_ft, ite_fx, List.length_cons, List.length_nil, List.map_cons, List.map_nil, List.length_map, List.cons_append, List.nil_append, List.append_nil, Nat.reduceAdd, Nat.reduceSub, Nat.reduceLeDiff, Nat.reduceLT, Nat.zero_add, List.reduceReplicate, List.getElem?_cons_zero, List.getElem?_cons_succ, List.set_cons_zero, List.set_cons_succ, List.zip_cons_cons, List.zip_nil_left, List.zip_nil_right, List.foldl_cons, List.foldl_nil, List.all_cons, List.all_nil, List.take_length, and_true, true_and, if_true, if_false, ite_true, ite_false, if_pos, ↓reduceIte, Bool.false_eq_true, Bool.not_true, Bool.not_false, Bool.true_and, Bool.and_true, Bool.false_and, Bool.and_false, Bool.false_or, Bool.or_false, Bool.true_or, Bool.or_true, Bool.not_not, decide_true, decide_false, bne_self_eq_false, Bool.bne_false, Bool.bne_true, and_self])
local macro_rules | `(tactic| simp_arith) => `(tactic| simp (disch := first | assumption | omega | rfl | decide) only [runF_mk, LIM_eq, fLK_s, fL_nil, apE_o, x_sti, e_glo, gloK_s, e_cav, cvK_f, kdK_s, kdL_s, e_kdc, newK_o, len_rng, initE_eq, fin_nx, fin_rt, fin_ex, fin_ite, bind_ok, bind_ex, bind_no, bind_ite, of_ok, of_ex, of_no, of_ite, seq_nx, seq_rt, seq_ex, seq_no, seq_ite, bd_d, bd_own, bd_p, bd_ex, bd_ite, lift_some, lift_none, lift_ite, map_some, map_none, opd_d, opd_own, opd_p, toD_d, toD_own, md_nil, md_d, md_own, ma_nil, ma_d, ma_own, ma_h, ma_f, ma_s, mo_nil, mo_d, mo_own, mo_p, e_var, v_own, v_d, v_h, v_f, v_s, e_cst, e_fnr, e_pow, e_bin, e_neg, negI, e_cmp, e_chn, chK_b, e_isn, nn_none, nn_bool, nn_int, nn_str, nn_tup, nn_list, nn_own, nn_p, e_isb, bk_b, bk_n, e_ands, e_ors, e_not, bK_b, e_ite, noP_d, noP_own, noP_ex, noP_ite, e_tup, e_lst, tupK_s, lstK_s, e_idx, ixK_d, ixK_own, ixK_p, ixK_h, ixK_s, memK_s, e_slo, e_shi, e_rev, e_call, clK_s, e_blt, bl2_s, bl2_d, bl2_own, bl2_p, blO_s, e_isi, e_sse, e_lrg, e_trg, e_cm1, cmK_ok, e_cm2, cmK2_ok, e_ler, e_tnot, tnK_b, tnK_i, x_frz, bi_addB, bi_subB, bl_strb, lerK_ok, lerK_ex, lerO_s, lerK_ite, s_nil, s_cons, a_one, a_cons, o_one, o_cons, t_nil, t_cons, tK_b, i_dat, datK_t, datK_l, datK_o, datK_p, i_rng, i_rng2, rng2K_i, rngK_i, i_enm, enm2_t, enm2_l, enm2_o, enm2_p, i_fns, bT_one, bT_onef, bT_tup, x_asg, setS_d, setS_o, setS_f, x_asgs, setK_s, sA_nil, sA_d, sA_o, x_unp, x_newh, appK_s, x_app, x_exp, x_retv, x_ret, rtK_d, rtK_o, x_retN, x_ifs, ifK_b, x_whl, x_fr, x_rai, x_raiv, raK_i, b_nil, b_cons, b_dct, dcK_s, dcO_ok, frz_e, frz_v, frz_ev, frz_r, frz_r2, frz_f, fz_eq, fzK_d, fzK_o, wipe_nil, wipe_cons, c_lt, c_le, c_gt, c_ge, c_eqi, c_nei, c_eqs, c_nes, c_eqb, c_neb, c_eqn, c_nen, c_eqtn, c_netn, bi_add, bi_sub, bi_addt, bi_addl, bi_adds, bl_lent, bl_lenl, bl_tup, bl_int, bl_bool, bl_abs, bl_min, bl_max, ix_t, ix_l, at_0, at_1, at_2, at_3, at_4, isiD, dbl_eq, ite_okb, ite_okB, ite_tb, ite_bt, ite_ft, ite_fx, List.length_cons, List.length_nil, List.map_cons, List.map_nil, List.length_map, List.cons_append, List.nil_append, List.append_nil, Nat.reduceAdd, Nat.reduceSub, Nat.reduceLeDiff, Nat.reduceLT, Nat.zero_add, List.reduceReplicate, List.getElem?_cons_zero, List.getElem?_cons_succ, List.set_cons_zero, List.set_cons_succ, List.zip_cons_cons, List.zip_nil_left, List.zip_nil_right, List.foldl_cons, List.foldl_nil, List.all_cons, List.all_nil, List.take_length, and_true, true_and, if_true, if_false, ite_true, ite_false, if_pos, ↓reduceIte, Bool.false_eq_true, Bool.not_true, Bool.not_false, Bool.true_and, Bool.and_true, Bool.false_and, Bool.and_false, Bool.false_or, Bool.or_false, Bool.true_or, Bool.or_true, Bool.not_not, decide_true, decide_false, bne_self_eq_false, Bool.bne_false, Bool.bne_true, and_self])
/-! ### loops by what holds between turns -/
section
variable {α : Type} {b : EnvT → Mem → O} {m : Mem} {tg : Tg}
theorem fl_inv {enc : α → SV} (I : List α → EnvT → Prop) : ∀ (xs pre : List α), (∀ pre x env, x ∈ xs → I pre env → ∃ e' env', bindT tg (enc x) env = some e' ∧ b e' m = .nx env' m ∧ I (pre ++ [x]) env') →
    ∀ env, I pre env → ∃ env', forL tg b (xs.map enc) env m = .nx env' m ∧ I (pre ++ xs) env'
  | [], pre, _, env, h => ⟨env, rfl, by rw [List.append_nil]; exact h⟩
  | x :: xs, pre, hs, env, h => by
    obtain ⟨e', env', h1, h2, h3⟩ := hs pre x env (.head _) h
    obtain ⟨env'', h4, h5⟩ := fl_inv (enc := enc) I xs (pre ++ [x]) (fun p y e hy hi => hs p y e (.tail _ hy) hi) env' h3
    refine ⟨env'', ?_, by rw [List.append_assoc] at h5; exact h5⟩
    rw [List.map_cons, fL_cons, h1, fLK_s, h2, seq_nx, h4]
theorem fl_ret {enc : α → SV} (I : List α → EnvT → Prop) (Q : List α → α → SV → Prop) : ∀ (xs pre : List α), (∀ pre x env, x ∈ xs → I pre env → ∃ e', bindT tg (enc x) env = some e' ∧ ((∃ env', b e' m = .nx env' m ∧ I (pre ++ [x]) env') ∨ (∃ v, b e' m = .rt v m ∧ Q pre x v))) →
    ∀ env, I pre env → (∃ env', forL tg b (xs.map enc) env m = .nx env' m ∧ I (pre ++ xs) env') ∨ (∃ v as x bs, xs = as ++ x :: bs ∧ forL tg b (xs.map enc) env m = .rt v m ∧ Q (pre ++ as) x v)
  | [], pre, _, env, h => .inl ⟨env, rfl, by rw [List.append_nil]; exact h⟩
  | x :: xs, pre, hs, env, h => by
    obtain ⟨e', h1, h2⟩ := hs pre x env (.head _) h
    rw [List.map_cons, fL_cons, h1, fLK_s]
    rcases h2 with ⟨env', h2, h3⟩ | ⟨v, h2, h3⟩
    · rw [h2, seq_nx]
      rcases fl_ret (enc := enc) I Q xs (pre ++ [x]) (fun p y e hy hi => hs p y e (.tail _ hy) hi) env' h3 with ⟨env'', h4, h5⟩ | ⟨v, as, y, bs, h4, h5, h6⟩
      · exact .inl ⟨env'', h4, by rw [List.append_assoc] at h5; exact h5⟩
      · exact .inr ⟨v, x :: as, y, bs, by rw [h4]; rfl, h5, by rw [List.append_assoc] at h6; exact h6⟩
    · rw [h2, seq_rt]
      exact .inr ⟨v, [], x, xs, rfl, rfl, by rw [List.append_nil]; exact h3⟩
end
/-! ### chains -/
def stepE (facts : List W) (mx : List Int) (d : D) : Option (List Int) := match d with
  | .tuple [.int i, .bool b] => if 0 ≤ i ∧ i.toNat < facts.length then goneF facts mx i.toNat b else none
  | _ => none
def endL (facts : List W) : List Int → Ds → Option (List Int)
  | mx, [] => some mx
  | mx, d :: ds => match stepE facts mx d with
    | none => none
    | some l => endL facts l ds
def endF (facts : List W) (mx : List Int) : D → Option (List Int)
  | .tuple ds => if ds.length ≤ 12 then endL facts mx ds else none
  | _ => none
theorem endL_mix {facts : List W} {n : Nat} (hf : WsR n facts) : ∀ {ds : Ds} {mx l : List Int}, MixR n mx → endL facts mx ds = some l → MixR n l
  | [], mx, l, hm, h => by cases h; exact hm
  | d :: ds, mx, l, hm, h => by
    rw [endL] at h
    cases q : stepE facts mx d with
    | none => rw [q] at h; cases h
    | some k =>
      rw [q] at h
      refine endL_mix hf ?_ h
      unfold stepE at q
      split at q
      · split at q
        · exact goneF_mix hf hm q
        · cases q
      · cases q
def assF (w : W) : W := if w.wd = .covers then w else ⟨.same, w.a, w.b⟩
def meetC (facts : List W) (a b : List Int) (c d : D) : Bool := match endF facts a c with
  | none => false
  | some x => decide (endF facts b d = some x)
section
variable {N : Nat} {m : Mem} {n : Nat} {ws : List W} {w : W} {mx : List Int}
end
/-! ### papers -/
/-- is a value a paper for a claim and a truth? -/
def clashV (ws : List W) (w : W) : D → Bool
  | .tuple [_, .int i, c, d] => if 0 ≤ i ∧ i.toNat < ws.length then (match ws[i.toNat]? with
      | some u => decide (u.wd = .unlike) && meetC (ws ++ [assF w]) u.a u.b c d
      | none => false) else false
  | _ => false
def paperF (ws : List W) (w : W) (truth : Bool) : D → Bool
  | .tuple (.str s :: r) => if truth != !decide (w.wd = .unlike) then decide (s = .ofString "clash") && clashV ws w (.tuple (.str s :: r))
    else if w.wd = .covers then (decide (s = .ofString "grow") && match r with
      | [c] => (match endF ws w.a c with
        | some l => hasAll l w.b
        | none => false)
      | _ => false)
    else decide (s = .ofString "meet") && match r with
      | [c, d] => meetC ws w.a w.b c d
      | _ => false
  | _ => false
theorem len4 {ds : Ds} : (decide ((ds.length : Int) = 4)) = match ds with | [_, _, _, _] => true | _ => false := by
  rcases ds with _ | ⟨a, _ | ⟨b, _ | ⟨c, _ | ⟨d, _ | ⟨e, r⟩⟩⟩⟩⟩ <;> simp
  omega
section
variable {N : Nat} {m : Mem} {n : Nat} {ws : List W} {w : W} {mx : List Int}
end
end Tn

set_option maxRecDepth 100000
namespace Tn
open PySem
local macro_rules | `(tactic| simp_arith [$ls,*]) => `(tactic| simp (disch := first | assumption | omega | rfl | decide) only [$ls,*, runF_mk, LIM_eq, fLK_s, fL_nil, apE_o, x_sti, e_glo, gloK_s, e_cav, cvK_f, kdK_s, kdL_s, e_kdc, newK_o, len_rng, initE_eq, fin_nx, fin_rt, fin_ex, fin_ite, bind_ok, bind_ex, bind_no, bind_ite, of_ok, of_ex, of_no, of_ite, seq_nx, seq_rt, seq_ex, seq_no, seq_ite, bd_d, bd_own, bd_p, bd_ex, bd_ite, lift_some, lift_none, lift_ite, map_some, map_none, opd_d, opd_own, opd_p, toD_d, toD_own, md_nil, md_d, md_own, ma_nil, ma_d, ma_own, ma_h, ma_f, ma_s, mo_nil, mo_d, mo_own, mo_p, e_var, v_own, v_d, v_h, v_f, v_s, e_cst, e_fnr, e_pow, e_bin, e_neg, negI, e_cmp, e_chn, chK_b, e_isn, nn_none, nn_bool, nn_int, nn_str, nn_tup, nn_list, nn_own, nn_p, e_isb, bk_b, bk_n, e_ands, e_ors, e_not, bK_b, e_ite, noP_d, noP_own, noP_ex, noP_ite, e_tup, e_lst, tupK_s, lstK_s, e_idx, ixK_d, ixK_own, ixK_p, ixK_h, ixK_s, memK_s, e_slo, e_shi, e_rev, e_call, clK_s, e_blt, bl2_s, bl2_d, bl2_own, bl2_p, blO_s, e_isi, e_sse, e_lrg, e_trg, e_cm1, cmK_ok, e_cm2, cmK2_ok, e_ler, e_tnot, tnK_b, tnK_i, x_frz, bi_addB, bi_subB, bl_strb, lerK_ok, lerK_ex, lerO_s, lerK_ite, s_nil, s_cons, a_one, a_cons, o_one, o_cons, t_nil, t_cons, tK_b, i_dat, datK_t, datK_l, datK_o, datK_p, i_rng, i_rng2, rng2K_i, rngK_i, i_enm, enm2_t, enm2_l, enm2_o, enm2_p, i_fns, bT_one, bT_onef, bT_tup, x_asg, setS_d, setS_o, setS_f, x_asgs, setK_s, sA_nil, sA_d, sA_o, x_unp, x_newh, appK_s, x_app, x_exp, x_retv, x_ret, rtK_d, rtK_o, x_retN, x_ifs, ifK_b, x_whl, x_fr, x_rai, x_raiv, raK_i, b_nil, b_cons, b_dct, dcK_s, dcO_ok, frz_e, frz_v, frz_ev, frz_r, frz_r2, frz_f, fz_eq, fzK_d, fzK_o, wipe_nil, wipe_cons, c_lt, c_le, c_gt, c_ge, c_eqi, c_nei, c_eqs, c_nes, c_eqb, c_neb, c_eqn, c_nen, c_eqtn, c_netn, bi_add, bi_sub, bi_addt, bi_addl, bi_adds, bl_lent, bl_lenl, bl_tup, bl_int, bl_bool, bl_abs, bl_min, bl_max, ix_t, ix_l, at_0, at_1, at_2, at_3, at_4, isiD, dbl_eq, ite_okb, ite_okB, ite_tb, ite_bt, ite_ft, ite_fx, List.length_cons, List.length_nil, List.map_cons, List.map_nil, List.length_map, List.cons_append, List.nil_append, List.append_nil, Nat.reduceAdd, Nat.reduceSub, Nat.reduceLeDiff, Nat.reduceLT, Nat.zero_add, List.reduceReplicate, List.getElem?_cons_zero, List.getElem?_cons_succ, List.set_cons_zero, List.set_cons_succ, List.zip_cons_cons, List.zip_nil_left, List.zip_nil_right, List.foldl_cons, List.foldl_nil, List.all_cons, List.all_nil, List.take_length, and_true, true_and, if_true, if_false, ite_true, ite_false, if_pos, ↓reduceIte, Bool.false_eq_true, Bool.not_true, Bool.not_false, Bool.true_and, Bool.and_true, Bool.false_and, Bool.and_false, Bool.false_or, Bool.or_false, Bool.true_or, Bool.or_true, Bool.not_not, decide_true, decide_false, bne_self_eq_false, Bool.bne_false, Bool.bne_true, and_self])
local macro_rules | `(tactic| simp_arith) => `(tactic| simp (disch := first | assumption | omega | rfl | decide) only [runF_mk, LIM_eq, fLK_s, fL_nil, apE_o, x_sti, e_glo, gloK_s, e_cav, cvK_f, kdK_s, kdL_s, e_kdc, newK_o, len_rng, initE_eq, fin_nx, fin_rt, fin_ex, fin_ite, bind_ok, bind_ex, bind_no, bind_ite, of_ok, of_ex, of_no, of_ite, seq_nx, seq_rt, seq_ex, seq_no, seq_ite, bd_d, bd_own, bd_p, bd_ex, bd_ite, lift_some, lift_none, lift_ite, map_some, map_none, opd_d, opd_own, opd_p, toD_d, toD_own, md_nil, md_d, md_own, ma_nil, ma_d, ma_own, ma_h, ma_f, ma_s, mo_nil, mo_d, mo_own, mo_p, e_var, v_own, v_d, v_h, v_f, v_s, e_cst, e_fnr, e_pow, e_bin, e_neg, negI, e_cmp, e_chn, chK_b, e_isn, nn_none, nn_bool, nn_int, nn_str, nn_tup, nn_list, nn_own, nn_p, e_isb, bk_b, bk_n, e_ands, e_ors, e_not, bK_b, e_ite, noP_d, noP_own, noP_ex, noP_ite, e_tup, e_lst, tupK_s, lstK_s, e_idx, ixK_d, ixK_own, ixK_p, ixK_h, ixK_s, memK_s, e_slo, e_shi, e_rev, e_call, clK_s, e_blt, bl2_s, bl2_d, bl2_own, bl2_p, blO_s, e_isi, e_sse, e_lrg, e_trg, e_cm1, cmK_ok, e_cm2, cmK2_ok, e_ler, e_tnot, tnK_b, tnK_i, x_frz, bi_addB, bi_subB, bl_strb, lerK_ok, lerK_ex, lerO_s, lerK_ite, s_nil, s_cons, a_one, a_cons, o_one, o_cons, t_nil, t_cons, tK_b, i_dat, datK_t, datK_l, datK_o, datK_p, i_rng, i_rng2, rng2K_i, rngK_i, i_enm, enm2_t, enm2_l, enm2_o, enm2_p, i_fns, bT_one, bT_onef, bT_tup, x_asg, setS_d, setS_o, setS_f, x_asgs, setK_s, sA_nil, sA_d, sA_o, x_unp, x_newh, appK_s, x_app, x_exp, x_retv, x_ret, rtK_d, rtK_o, x_retN, x_ifs, ifK_b, x_whl, x_fr, x_rai, x_raiv, raK_i, b_nil, b_cons, b_dct, dcK_s, dcO_ok, frz_e, frz_v, frz_ev, frz_r, frz_r2, frz_f, fz_eq, fzK_d, fzK_o, wipe_nil, wipe_cons, c_lt, c_le, c_gt, c_ge, c_eqi, c_nei, c_eqs, c_nes, c_eqb, c_neb, c_eqn, c_nen, c_eqtn, c_netn, bi_add, bi_sub, bi_addt, bi_addl, bi_adds, bl_lent, bl_lenl, bl_tup, bl_int, bl_bool, bl_abs, bl_min, bl_max, ix_t, ix_l, at_0, at_1, at_2, at_3, at_4, isiD, dbl_eq, ite_okb, ite_okB, ite_tb, ite_bt, ite_ft, ite_fx, List.length_cons, List.length_nil, List.map_cons, List.map_nil, List.length_map, List.cons_append, List.nil_append, List.append_nil, Nat.reduceAdd, Nat.reduceSub, Nat.reduceLeDiff, Nat.reduceLT, Nat.zero_add, List.reduceReplicate, List.getElem?_cons_zero, List.getElem?_cons_succ, List.set_cons_zero, List.set_cons_succ, List.zip_cons_cons, List.zip_nil_left, List.zip_nil_right, List.foldl_cons, List.foldl_nil, List.all_cons, List.all_nil, List.take_length, and_true, true_and, if_true, if_false, ite_true, ite_false, if_pos, ↓reduceIte, Bool.false_eq_true, Bool.not_true, Bool.not_false, Bool.true_and, Bool.and_true, Bool.false_and, Bool.and_false, Bool.false_or, Bool.or_false, Bool.true_or, Bool.or_true, Bool.not_not, decide_true, decide_false, bne_self_eq_false, Bool.bne_false, Bool.bne_true, and_self])
/-! ### two for in a comprehension -/
section
variable {α β : Type} {tst : EnvT → Mem → R Bool} {el : EnvT → Mem → R SV} {env : EnvT} {m : Mem}
theorem cL2s {tg tg2 : Tg} {own2 : List Nat} {it2 : EnvT → Mem → R (List SV)} (enc : α → SV) (e : α → EnvT) (ys : α → List SV) (r : α → Ds) :
    ∀ (xs : List α) (acc : Ds), (∀ x ∈ xs, bindT tg (enc x) env = some (e x)) → (∀ x ∈ xs, it2 (e x) m = .ok (ys x) m) →
      (∀ x ∈ xs, ∀ acc, cLoop tg2 tst el (wipeE (e x) own2) (ys x) acc m = .ok (acc ++ r x) m) →
      cLoop2 tg own2 it2 tg2 tst el env (xs.map enc) acc m = .ok (acc ++ xs.flatMap r) m
  | [], acc, _, _, _ => by simp [cLoop2]
  | x :: xs, acc, h1, h2, h3 => by
    have ih := cL2s (tg := tg) (tg2 := tg2) (own2 := own2) (it2 := it2) enc e ys r xs (acc ++ r x) (fun y hy => h1 y (.tail _ hy)) (fun y hy => h2 y (.tail _ hy)) (fun y hy => h3 y (.tail _ hy))
    rw [List.map_cons, cLoop2, h1 x (.head _)]
    dsimp only
    rw [h2 x (.head _)]
    dsimp only
    rw [h3 x (.head _)]
    dsimp only
    rw [ih, List.flatMap_cons, List.append_assoc]
theorem cLg {i : Nat} {enc : α → D} (p : α → Bool) (f : α → D) {ys : List α} (acc : Ds) (hi : i < env.length) (h2 : ∀ y ∈ ys, tst (env.set i (some (.d (enc y)))) m = .ok (p y) m)
    (h3 : ∀ y ∈ ys, p y = true → el (env.set i (some (.d (enc y)))) m = .ok (.d (f y)) m) : cLoop (.one i) tst el env ((ys.map enc).map .d) acc m = .ok (acc ++ (ys.filter p).map f) m := by
  rw [List.map_map]
  refine (cLs (i := 0) (SV.d ∘ enc) p f (fun y => env.set i (some (.d (enc y)))) ys acc (fun y _ => ?_) h2 (fun y hy q => ⟨_, h3 y hy q, rfl⟩))
  show bindT (.one i) (.d (enc y)) env = _
  rw [bT_one, if_pos hi]
end
theorem rng_map {n : Nat} : rngD 0 n = (List.range n).map fun y : Nat => SV.d (.int (y : Int)) := by
  unfold rngD; congr; funext y; rw [Int.zero_add]
/-! ### settling -/
def lotsF (n : Nat) : List (List Int) := (List.range (n + 1)).flatMap fun s => (kindsL n).filter fun l => decide ((l.length : Int) = (s : Nat))
def subL (less lot : List Int) : Bool := less.all fun a => decide (a ∈ lot)
def lotW (ws : List W) (lot : List Int) : List W := lot.map fun a => ws.getD a.toNat ⟨.same, [], []⟩
def leastStep (n : Nat) (ws more : List W) (acc : List (List Int)) (lot : List Int) : List (List Int) :=
  if acc.all (fun less => !subL less lot) = true then (if canF n (lotW ws lot ++ more) = true then acc else acc ++ [lot]) else acc
def leastA (n : Nat) (ws more : List W) : List (List Int) := (lotsF ws.length).foldl (leastStep n ws more) []
def leastWF (n : Nat) (ws more : List W) : List (List Int) := sortT (leastA n ws more)
theorem mem_lotsF {n : Nat} {l : List Int} : l ∈ lotsF n ↔ MixR n l := by
  unfold lotsF
  rw [List.mem_flatMap]
  constructor
  · rintro ⟨s, hs, h⟩
    exact mem_kindsL.mp (List.mem_filter.mp h).1
  · intro h
    exact ⟨l.length, List.mem_range.mpr (by have := h.len; omega), List.mem_filter.mpr ⟨mem_kindsL.mpr h, by simp⟩⟩
theorem lotsF_cons {n : Nat} : ∃ r, lotsF n = [] :: r ∧ ∀ l ∈ r, l ≠ [] := by
  obtain ⟨r, h, hr⟩ := kindsL_cons n
  unfold lotsF
  rw [List.range_succ_eq_map, List.flatMap_cons, h]
  have : (([] : List Int) :: r).filter (fun l => decide ((l.length : Int) = ((0 : Nat) : Nat))) = [[]] := by
    rw [List.filter_cons_of_pos (by simp), List.filter_eq_nil_iff.mpr]
    intro a ha
    rw [decide_eq_true_eq]
    intro z
    have : a = [] := by cases a with | nil => rfl | cons => simp at z; omega
    exact hr (this ▸ ha)
  rw [this]
  refine ⟨_, rfl, fun l hl => ?_⟩
  obtain ⟨s, hs, hl⟩ := List.mem_flatMap.mp hl
  obtain ⟨k, _, rfl⟩ := List.mem_map.mp hs
  have := (List.mem_filter.mp hl).2
  rintro rfl
  simp at this
  omega
theorem leastA_ok {n : Nat} {ws more : List W} : leastA n ws more = [[]] ∨ ∀ l ∈ leastA n ws more, l ≠ [] := by
  obtain ⟨r, h, hr⟩ := @lotsF_cons ws.length
  unfold leastA
  rw [h, List.foldl_cons]
  have h0 : leastStep n ws more [] [] = [[]] ∨ leastStep n ws more [] [] = [] := by
    unfold leastStep; rw [List.all_nil, if_pos rfl]; split
    · exact .inr rfl
    · exact .inl rfl
  have key : ∀ (r : List (List Int)) (acc : List (List Int)), (∀ l ∈ r, l ≠ []) → (acc = [[]] ∨ ∀ l ∈ acc, l ≠ []) → (r.foldl (leastStep n ws more) acc = [[]] ∨ ∀ l ∈ r.foldl (leastStep n ws more) acc, l ≠ []) := by
    intro r
    induction r with
    | nil => intro acc _ h; exact h
    | cons x r ih =>
      intro acc hr ha
      rw [List.foldl_cons]
      refine ih _ (fun l hl => hr l (.tail _ hl)) ?_
      unfold leastStep
      rcases ha with rfl | ha
      · left; rfl
      · right
        split
        · split
          · exact ha
          · intro l hl
            rw [List.mem_append, List.mem_singleton] at hl
            rcases hl with hl | rfl
            · exact ha l hl
            · exact hr _ (.head _)
        · exact ha
  exact key r _ hr (h0.elim .inl fun e => .inr (by rw [e]; intro l hl; cases hl))
theorem leastA_len {n : Nat} {ws more : List W} : ∀ (r : List (List Int)) (acc : List (List Int)), (r.foldl (leastStep n ws more) acc).length ≤ acc.length + r.length
  | [], acc => by simp
  | x :: r, acc => by
    rw [List.foldl_cons]
    have := leastA_len (n := n) (ws := ws) (more := more) r (leastStep n ws more acc x)
    have h2 : (leastStep n ws more acc x).length ≤ acc.length + 1 := by
      unfold leastStep; split
      · split
        · omega
        · simp
      · omega
    rw [List.length_cons]; omega
theorem lotsF_len {n : Nat} : (lotsF n).length ≤ 2 ^ n := by
  have key : ∀ (l : List (List Int)) (k : Nat), ((List.range k).flatMap fun s => l.filter fun q => decide ((q.length : Int) = (s : Nat))).length = (l.filter fun q => decide (q.length < k)).length := by
    intro l k
    induction k with
    | zero => rw [List.filter_eq_nil_iff.mpr (by simp)]; rfl
    | succ k ih =>
      rw [List.range_succ, List.flatMap_append, List.length_append, ih, List.flatMap_singleton]
      clear ih
      induction l with
      | nil => rfl
      | cons x l ih2 =>
        simp only [List.filter_cons]
        by_cases h1 : x.length < k
        · have h2 : ¬ ((x.length : Int) = (k : Nat)) := by omega
          have h3 : x.length < k + 1 := by omega
          simp [h1, h2, h3] at ih2 ⊢; omega
        · by_cases h2 : x.length = k
          · have h3 : x.length < k + 1 := by omega
            simp [h1, h2] at ih2 ⊢; omega
          · have h3 : ¬ x.length < k + 1 := by omega
            have h4 : ¬ ((x.length : Int) = (k : Nat)) := by omega
            simp [h1, h3, h4] at ih2 ⊢; omega
  unfold lotsF
  rw [key]
  have := List.length_filter_le (fun q => decide (List.length q < n + 1)) (kindsL n)
  rw [kindsL_len] at this
  exact this
theorem lotW_r {n : Nat} {ws : List W} {lot : List Int} (hf : WsR n ws) (hl : MixR ws.length lot) : WsR n (lotW ws lot) := fun w hw => by
  obtain ⟨a, ha, rfl⟩ := List.mem_map.mp hw
  have := hl.2 a ha
  rw [List.getD_eq_getElem?_getD, List.getElem?_eq_getElem (by omega)]
  exact hf _ (List.getElem_mem _)
section
variable {N : Nat} {m : Mem} {n : Nat} {ws more : List W} {w : W} {mx : List Int}
def needP (n : Nat) (ws : List W) (k : Nat) : Bool := !canF n (ws.take k ++ ws.drop (k + 1) ++ [(ws.getD k ⟨.same, [], []⟩).neg])
def needF (n : Nat) (ws : List W) : List Nat := (List.range ws.length).filter (needP n ws)
theorem hi_nat {ds : Ds} {k : Nat} : hiD (.tuple ds) (.int (k : Nat)) = some (.d (.tuple (ds.take k))) := by
  unfold hiD sIx; dsimp only; rw [if_pos (by omega)]
  congr 3
  rw [Int.toNat_natCast, ← List.take_eq_take_min]
theorem lo_nat {ds : Ds} {k : Nat} : loD (.tuple ds) (.int (k : Nat)) = some (.d (.tuple (ds.drop k))) := by
  unfold loD sIx; dsimp only; rw [if_pos (by omega)]
  congr 3
  rw [Int.toNat_natCast]
  by_cases h : k ≤ ds.length
  · rw [Nat.min_eq_left h]
  · rw [Nat.min_eq_right (by omega), List.drop_eq_nil_of_le (by omega), List.drop_eq_nil_of_le (by omega)]
def nlB : Ss := (.cons (.ifs (.not (.call 55 (.cons (.var 1) (.cons (.bin .add (.bin .add (.shi (.var 2) (.var 4)) (.slo (.var 2) (.bin .add (.var 4) (.cst (.int (1)))))) (.tup (.cons (.call 54 (.cons (.idx (.var 2) (.var 4)) .nil)) .nil))) .nil)))) (.cons (.app 3 (.var 4)) .nil) .nil) .nil)
end
end Tn

set_option maxRecDepth 100000
namespace Tn
open PySem
local macro_rules | `(tactic| simp_arith [$ls,*]) => `(tactic| simp (disch := first | assumption | omega | rfl | decide) only [$ls,*, runF_mk, LIM_eq, fLK_s, fL_nil, apE_o, x_sti, e_glo, gloK_s, e_cav, cvK_f, kdK_s, kdL_s, e_kdc, newK_o, len_rng, initE_eq, fin_nx, fin_rt, fin_ex, fin_ite, bind_ok, bind_ex, bind_no, bind_ite, of_ok, of_ex, of_no, of_ite, seq_nx, seq_rt, seq_ex, seq_no, seq_ite, bd_d, bd_own, bd_p, bd_ex, bd_ite, lift_some, lift_none, lift_ite, map_some, map_none, opd_d, opd_own, opd_p, toD_d, toD_own, md_nil, md_d, md_own, ma_nil, ma_d, ma_own, ma_h, ma_f, ma_s, mo_nil, mo_d, mo_own, mo_p, e_var, v_own, v_d, v_h, v_f, v_s, e_cst, e_fnr, e_pow, e_bin, e_neg, negI, e_cmp, e_chn, chK_b, e_isn, nn_none, nn_bool, nn_int, nn_str, nn_tup, nn_list, nn_own, nn_p, e_isb, bk_b, bk_n, e_ands, e_ors, e_not, bK_b, e_ite, noP_d, noP_own, noP_ex, noP_ite, e_tup, e_lst, tupK_s, lstK_s, e_idx, ixK_d, ixK_own, ixK_p, ixK_h, ixK_s, memK_s, e_slo, e_shi, e_rev, e_call, clK_s, e_blt, bl2_s, bl2_d, bl2_own, bl2_p, blO_s, e_isi, e_sse, e_lrg, e_trg, e_cm1, cmK_ok, e_cm2, cmK2_ok, e_ler, e_tnot, tnK_b, tnK_i, x_frz, bi_addB, bi_subB, bl_strb, lerK_ok, lerK_ex, lerO_s, lerK_ite, s_nil, s_cons, a_one, a_cons, o_one, o_cons, t_nil, t_cons, tK_b, i_dat, datK_t, datK_l, datK_o, datK_p, i_rng, i_rng2, rng2K_i, rngK_i, i_enm, enm2_t, enm2_l, enm2_o, enm2_p, i_fns, bT_one, bT_onef, bT_tup, x_asg, setS_d, setS_o, setS_f, x_asgs, setK_s, sA_nil, sA_d, sA_o, x_unp, x_newh, appK_s, x_app, x_exp, x_retv, x_ret, rtK_d, rtK_o, x_retN, x_ifs, ifK_b, x_whl, x_fr, x_rai, x_raiv, raK_i, b_nil, b_cons, b_dct, dcK_s, dcO_ok, frz_e, frz_v, frz_ev, frz_r, frz_r2, frz_f, fz_eq, fzK_d, fzK_o, wipe_nil, wipe_cons, c_lt, c_le, c_gt, c_ge, c_eqi, c_nei, c_eqs, c_nes, c_eqb, c_neb, c_eqn, c_nen, c_eqtn, c_netn, bi_add, bi_sub, bi_addt, bi_addl, bi_adds, bl_lent, bl_lenl, bl_tup, bl_int, bl_bool, bl_abs, bl_min, bl_max, ix_t, ix_l, at_0, at_1, at_2, at_3, at_4, isiD, dbl_eq, ite_okb, ite_okB, ite_tb, ite_bt, ite_ft, ite_fx, List.length_cons, List.length_nil, List.map_cons, List.map_nil, List.length_map, List.cons_append, List.nil_append, List.append_nil, Nat.reduceAdd, Nat.reduceSub, Nat.reduceLeDiff, Nat.reduceLT, Nat.zero_add, List.reduceReplicate, List.getElem?_cons_zero, List.getElem?_cons_succ, List.set_cons_zero, List.set_cons_succ, List.zip_cons_cons, List.zip_nil_left, List.zip_nil_right, List.foldl_cons, List.foldl_nil, List.all_cons, List.all_nil, List.take_length, and_true, true_and, if_true, if_false, ite_true, ite_false, if_pos, ↓reduceIte, Bool.false_eq_true, Bool.not_true, Bool.not_false, Bool.true_and, Bool.and_true, Bool.false_and, Bool.and_false, Bool.false_or, Bool.or_false, Bool.true_or, Bool.or_true, Bool.not_not, decide_true, decide_false, bne_self_eq_false, Bool.bne_false, Bool.bne_true, and_self])
local macro_rules | `(tactic| simp_arith) => `(tactic| simp (disch := first | assumption | omega | rfl | decide) only [runF_mk, LIM_eq, fLK_s, fL_nil, apE_o, x_sti, e_glo, gloK_s, e_cav, cvK_f, kdK_s, kdL_s, e_kdc, newK_o, len_rng, initE_eq, fin_nx, fin_rt, fin_ex, fin_ite, bind_ok, bind_ex, bind_no, bind_ite, of_ok, of_ex, of_no, of_ite, seq_nx, seq_rt, seq_ex, seq_no, seq_ite, bd_d, bd_own, bd_p, bd_ex, bd_ite, lift_some, lift_none, lift_ite, map_some, map_none, opd_d, opd_own, opd_p, toD_d, toD_own, md_nil, md_d, md_own, ma_nil, ma_d, ma_own, ma_h, ma_f, ma_s, mo_nil, mo_d, mo_own, mo_p, e_var, v_own, v_d, v_h, v_f, v_s, e_cst, e_fnr, e_pow, e_bin, e_neg, negI, e_cmp, e_chn, chK_b, e_isn, nn_none, nn_bool, nn_int, nn_str, nn_tup, nn_list, nn_own, nn_p, e_isb, bk_b, bk_n, e_ands, e_ors, e_not, bK_b, e_ite, noP_d, noP_own, noP_ex, noP_ite, e_tup, e_lst, tupK_s, lstK_s, e_idx, ixK_d, ixK_own, ixK_p, ixK_h, ixK_s, memK_s, e_slo, e_shi, e_rev, e_call, clK_s, e_blt, bl2_s, bl2_d, bl2_own, bl2_p, blO_s, e_isi, e_sse, e_lrg, e_trg, e_cm1, cmK_ok, e_cm2, cmK2_ok, e_ler, e_tnot, tnK_b, tnK_i, x_frz, bi_addB, bi_subB, bl_strb, lerK_ok, lerK_ex, lerO_s, lerK_ite, s_nil, s_cons, a_one, a_cons, o_one, o_cons, t_nil, t_cons, tK_b, i_dat, datK_t, datK_l, datK_o, datK_p, i_rng, i_rng2, rng2K_i, rngK_i, i_enm, enm2_t, enm2_l, enm2_o, enm2_p, i_fns, bT_one, bT_onef, bT_tup, x_asg, setS_d, setS_o, setS_f, x_asgs, setK_s, sA_nil, sA_d, sA_o, x_unp, x_newh, appK_s, x_app, x_exp, x_retv, x_ret, rtK_d, rtK_o, x_retN, x_ifs, ifK_b, x_whl, x_fr, x_rai, x_raiv, raK_i, b_nil, b_cons, b_dct, dcK_s, dcO_ok, frz_e, frz_v, frz_ev, frz_r, frz_r2, frz_f, fz_eq, fzK_d, fzK_o, wipe_nil, wipe_cons, c_lt, c_le, c_gt, c_ge, c_eqi, c_nei, c_eqs, c_nes, c_eqb, c_neb, c_eqn, c_nen, c_eqtn, c_netn, bi_add, bi_sub, bi_addt, bi_addl, bi_adds, bl_lent, bl_lenl, bl_tup, bl_int, bl_bool, bl_abs, bl_min, bl_max, ix_t, ix_l, at_0, at_1, at_2, at_3, at_4, isiD, dbl_eq, ite_okb, ite_okB, ite_tb, ite_bt, ite_ft, ite_fx, List.length_cons, List.length_nil, List.map_cons, List.map_nil, List.length_map, List.cons_append, List.nil_append, List.append_nil, Nat.reduceAdd, Nat.reduceSub, Nat.reduceLeDiff, Nat.reduceLT, Nat.zero_add, List.reduceReplicate, List.getElem?_cons_zero, List.getElem?_cons_succ, List.set_cons_zero, List.set_cons_succ, List.zip_cons_cons, List.zip_nil_left, List.zip_nil_right, List.foldl_cons, List.foldl_nil, List.all_cons, List.all_nil, List.take_length, and_true, true_and, if_true, if_false, ite_true, ite_false, if_pos, ↓reduceIte, Bool.false_eq_true, Bool.not_true, Bool.not_false, Bool.true_and, Bool.and_true, Bool.false_and, Bool.and_false, Bool.false_or, Bool.or_false, Bool.true_or, Bool.or_true, Bool.not_not, decide_true, decide_false, bne_self_eq_false, Bool.bne_false, Bool.bne_true, and_self])
/-! ### likeness -/
def beyondF (n : Nat) (ws : List W) : List W → Option (List (List Int))
  | [] => none
  | w :: r => match huesF n (ws ++ [w.neg]) with
    | some x => some x
    | none => beyondF n ws r
def partedF (n : Nat) (ws vs : List W) : Option (List (List Int)) := match beyondF n ws vs with
  | none => beyondF n vs ws
  | some r => some r
section
variable {N : Nat} {m : Mem} {n k : Nat} {ws vs : List W} {w : W} {mx : List Int}
theorem oH_some {r : List (List Int)} : oH (some r) = .tuple (r.map eM) := rfl
theorem oH_none : oH none = .none := rfl
theorem isNn_oH {o : Option (List (List Int))} : isNn (.d (oH o)) = o.isNone := by cases o <;> rfl
end
/-! ### trials -/
abbrev Tr := List Int × List Int
def eT (t : Tr) : D := .tuple [.tuple (t.1.map .int), .tuple (t.2.map .int)]
def TrOk (n : Nat) (t : Tr) : Prop := MixOk n t.1 ∧ MixOk n t.2
def TrsOk (n : Nat) (ts : List Tr) : Prop := 1 ≤ ts.length ∧ ts.length ≤ 5 ∧ ∀ t ∈ ts, TrOk n t
def resF (n : Nat) (ws : List W) (t : Tr) : List (Bool × List W) := [(true, ws ++ [⟨.same, t.1, t.2⟩]), (false, ws ++ [⟨.unlike, t.1, t.2⟩])].filter fun p => canF n p.2
def eR (p : Bool × List W) : D := .tuple [.bool p.1, .tuple (p.2.map eW)]
def sureN (n : Nat) (ws : List W) (cl : List W) : Nat := (cl.filter fun w => (knownF n ws w).isSome).length
def minN : List Nat → Nat
  | [] => 0
  | x :: r => (minI x (r.map fun k : Nat => (k : Int))).toNat
def trialN (n : Nat) (ws : List W) (cl : List W) (t : Tr) : Nat := minN ((resF n ws t).map fun p => sureN n p.2 cl)
def bestS (n : Nat) (ws cl : List W) (b : Option (Nat × Nat)) (p : Tr × Nat) : Option (Nat × Nat) := match b with
  | none => some (trialN n ws cl p.1, p.2)
  | some q => if q.1 < trialN n ws cl p.1 then some (trialN n ws cl p.1, p.2) else some q
def bestF (n : Nat) (ws : List W) (ts : List Tr) (cl : List W) : Option (Nat × Nat) := ts.zipIdx.foldl (bestS n ws cl) none
def oP : Option (Nat × Nat) → D
  | none => .none
  | some p => .tuple [.int (p.1 : Nat), .int (p.2 : Nat)]
theorem Sm_T {n : Nat} {t : Tr} (hn : n ≤ 30) (h : TrOk n t) : Sm (eT t) := by
  unfold eT; rw [Sm_t]
  refine ⟨by simp, fun d hd => ?_⟩
  simp only [List.mem_cons, List.not_mem_nil, or_false] at hd
  rcases hd with rfl | rfl
  · exact h.1.sm hn
  · exact h.2.sm hn
def isTrial (n : Int) : D → Bool
  | .tuple [a, b] => isMix n a && isMix n b
  | _ => false
theorem resF_len {n : Nat} {ws : List W} {t : Tr} : (resF n ws t).length ≤ 2 := List.length_filter_le _ _
theorem resF_r {n : Nat} {ws : List W} {t : Tr} (hf : WsR n ws) (ht : TrOk n t) {p : Bool × List W} (hp : p ∈ resF n ws t) : WsR n p.2 ∧ p.2.length = ws.length + 1 := by
  have := (List.mem_filter.mp hp).1
  simp only [List.mem_cons, List.not_mem_nil, or_false] at this
  rcases this with rfl | rfl
  · exact ⟨hf.add ⟨ht.1.1, ht.2.1⟩, by simp⟩
  · exact ⟨hf.add ⟨ht.1.1, ht.2.1⟩, by simp⟩
section
variable {N : Nat} {m : Mem} {n k : Nat} {ws vs : List W} {w : W} {mx : List Int}
end
end Tn

set_option maxRecDepth 100000
namespace Tn
open PySem
local macro_rules | `(tactic| simp_arith [$ls,*]) => `(tactic| simp (disch := first | assumption | omega | rfl | decide) only [$ls,*, runF_mk, LIM_eq, fLK_s, fL_nil, apE_o, x_sti, e_glo, gloK_s, e_cav, cvK_f, kdK_s, kdL_s, e_kdc, newK_o, len_rng, initE_eq, fin_nx, fin_rt, fin_ex, fin_ite, bind_ok, bind_ex, bind_no, bind_ite, of_ok, of_ex, of_no, of_ite, seq_nx, seq_rt, seq_ex, seq_no, seq_ite, bd_d, bd_own, bd_p, bd_ex, bd_ite, lift_some, lift_none, lift_ite, map_some, map_none, opd_d, opd_own, opd_p, toD_d, toD_own, md_nil, md_d, md_own, ma_nil, ma_d, ma_own, ma_h, ma_f, ma_s, mo_nil, mo_d, mo_own, mo_p, e_var, v_own, v_d, v_h, v_f, v_s, e_cst, e_fnr, e_pow, e_bin, e_neg, negI, e_cmp, e_chn, chK_b, e_isn, nn_none, nn_bool, nn_int, nn_str, nn_tup, nn_list, nn_own, nn_p, e_isb, bk_b, bk_n, e_ands, e_ors, e_not, bK_b, e_ite, noP_d, noP_own, noP_ex, noP_ite, e_tup, e_lst, tupK_s, lstK_s, e_idx, ixK_d, ixK_own, ixK_p, ixK_h, ixK_s, memK_s, e_slo, e_shi, e_rev, e_call, clK_s, e_blt, bl2_s, bl2_d, bl2_own, bl2_p, blO_s, e_isi, e_sse, e_lrg, e_trg, e_cm1, cmK_ok, e_cm2, cmK2_ok, e_ler, e_tnot, tnK_b, tnK_i, x_frz, bi_addB, bi_subB, bl_strb, lerK_ok, lerK_ex, lerO_s, lerK_ite, s_nil, s_cons, a_one, a_cons, o_one, o_cons, t_nil, t_cons, tK_b, i_dat, datK_t, datK_l, datK_o, datK_p, i_rng, i_rng2, rng2K_i, rngK_i, i_enm, enm2_t, enm2_l, enm2_o, enm2_p, i_fns, bT_one, bT_onef, bT_tup, x_asg, setS_d, setS_o, setS_f, x_asgs, setK_s, sA_nil, sA_d, sA_o, x_unp, x_newh, appK_s, x_app, x_exp, x_retv, x_ret, rtK_d, rtK_o, x_retN, x_ifs, ifK_b, x_whl, x_fr, x_rai, x_raiv, raK_i, b_nil, b_cons, b_dct, dcK_s, dcO_ok, frz_e, frz_v, frz_ev, frz_r, frz_r2, frz_f, fz_eq, fzK_d, fzK_o, wipe_nil, wipe_cons, c_lt, c_le, c_gt, c_ge, c_eqi, c_nei, c_eqs, c_nes, c_eqb, c_neb, c_eqn, c_nen, c_eqtn, c_netn, bi_add, bi_sub, bi_addt, bi_addl, bi_adds, bl_lent, bl_lenl, bl_tup, bl_int, bl_bool, bl_abs, bl_min, bl_max, ix_t, ix_l, at_0, at_1, at_2, at_3, at_4, isiD, dbl_eq, ite_okb, ite_okB, ite_tb, ite_bt, ite_ft, ite_fx, List.length_cons, List.length_nil, List.map_cons, List.map_nil, List.length_map, List.cons_append, List.nil_append, List.append_nil, Nat.reduceAdd, Nat.reduceSub, Nat.reduceLeDiff, Nat.reduceLT, Nat.zero_add, List.reduceReplicate, List.getElem?_cons_zero, List.getElem?_cons_succ, List.set_cons_zero, List.set_cons_succ, List.zip_cons_cons, List.zip_nil_left, List.zip_nil_right, List.foldl_cons, List.foldl_nil, List.all_cons, List.all_nil, List.take_length, and_true, true_and, if_true, if_false, ite_true, ite_false, if_pos, ↓reduceIte, Bool.false_eq_true, Bool.not_true, Bool.not_false, Bool.true_and, Bool.and_true, Bool.false_and, Bool.and_false, Bool.false_or, Bool.or_false, Bool.true_or, Bool.or_true, Bool.not_not, decide_true, decide_false, bne_self_eq_false, Bool.bne_false, Bool.bne_true, and_self])
local macro_rules | `(tactic| simp_arith) => `(tactic| simp (disch := first | assumption | omega | rfl | decide) only [runF_mk, LIM_eq, fLK_s, fL_nil, apE_o, x_sti, e_glo, gloK_s, e_cav, cvK_f, kdK_s, kdL_s, e_kdc, newK_o, len_rng, initE_eq, fin_nx, fin_rt, fin_ex, fin_ite, bind_ok, bind_ex, bind_no, bind_ite, of_ok, of_ex, of_no, of_ite, seq_nx, seq_rt, seq_ex, seq_no, seq_ite, bd_d, bd_own, bd_p, bd_ex, bd_ite, lift_some, lift_none, lift_ite, map_some, map_none, opd_d, opd_own, opd_p, toD_d, toD_own, md_nil, md_d, md_own, ma_nil, ma_d, ma_own, ma_h, ma_f, ma_s, mo_nil, mo_d, mo_own, mo_p, e_var, v_own, v_d, v_h, v_f, v_s, e_cst, e_fnr, e_pow, e_bin, e_neg, negI, e_cmp, e_chn, chK_b, e_isn, nn_none, nn_bool, nn_int, nn_str, nn_tup, nn_list, nn_own, nn_p, e_isb, bk_b, bk_n, e_ands, e_ors, e_not, bK_b, e_ite, noP_d, noP_own, noP_ex, noP_ite, e_tup, e_lst, tupK_s, lstK_s, e_idx, ixK_d, ixK_own, ixK_p, ixK_h, ixK_s, memK_s, e_slo, e_shi, e_rev, e_call, clK_s, e_blt, bl2_s, bl2_d, bl2_own, bl2_p, blO_s, e_isi, e_sse, e_lrg, e_trg, e_cm1, cmK_ok, e_cm2, cmK2_ok, e_ler, e_tnot, tnK_b, tnK_i, x_frz, bi_addB, bi_subB, bl_strb, lerK_ok, lerK_ex, lerO_s, lerK_ite, s_nil, s_cons, a_one, a_cons, o_one, o_cons, t_nil, t_cons, tK_b, i_dat, datK_t, datK_l, datK_o, datK_p, i_rng, i_rng2, rng2K_i, rngK_i, i_enm, enm2_t, enm2_l, enm2_o, enm2_p, i_fns, bT_one, bT_onef, bT_tup, x_asg, setS_d, setS_o, setS_f, x_asgs, setK_s, sA_nil, sA_d, sA_o, x_unp, x_newh, appK_s, x_app, x_exp, x_retv, x_ret, rtK_d, rtK_o, x_retN, x_ifs, ifK_b, x_whl, x_fr, x_rai, x_raiv, raK_i, b_nil, b_cons, b_dct, dcK_s, dcO_ok, frz_e, frz_v, frz_ev, frz_r, frz_r2, frz_f, fz_eq, fzK_d, fzK_o, wipe_nil, wipe_cons, c_lt, c_le, c_gt, c_ge, c_eqi, c_nei, c_eqs, c_nes, c_eqb, c_neb, c_eqn, c_nen, c_eqtn, c_netn, bi_add, bi_sub, bi_addt, bi_addl, bi_adds, bl_lent, bl_lenl, bl_tup, bl_int, bl_bool, bl_abs, bl_min, bl_max, ix_t, ix_l, at_0, at_1, at_2, at_3, at_4, isiD, dbl_eq, ite_okb, ite_okB, ite_tb, ite_bt, ite_ft, ite_fx, List.length_cons, List.length_nil, List.map_cons, List.map_nil, List.length_map, List.cons_append, List.nil_append, List.append_nil, Nat.reduceAdd, Nat.reduceSub, Nat.reduceLeDiff, Nat.reduceLT, Nat.zero_add, List.reduceReplicate, List.getElem?_cons_zero, List.getElem?_cons_succ, List.set_cons_zero, List.set_cons_succ, List.zip_cons_cons, List.zip_nil_left, List.zip_nil_right, List.foldl_cons, List.foldl_nil, List.all_cons, List.all_nil, List.take_length, and_true, true_and, if_true, if_false, ite_true, ite_false, if_pos, ↓reduceIte, Bool.false_eq_true, Bool.not_true, Bool.not_false, Bool.true_and, Bool.and_true, Bool.false_and, Bool.and_false, Bool.false_or, Bool.or_false, Bool.true_or, Bool.or_true, Bool.not_not, decide_true, decide_false, bne_self_eq_false, Bool.bne_false, Bool.bne_true, and_self])
/-! ### draws -/
def VatOk (a b : Int) : Prop := 0 ≤ a ∧ 0 ≤ b ∧ b < 8589934592
/-- the same store, but for the vat -/
def Up (m : Mem) (k : Nat) (m' : Mem) : Prop := ∃ a b, m' = m.set k (.nums [a, b]) ∧ VatOk a b
def Vt (m : Mem) (k : Nat) : Prop := ∃ a b, m[k]? = some (.nums [a, b]) ∧ VatOk a b
theorem Vt.lt {m : Mem} {k : Nat} (h : Vt m k) : k < m.length := by
  obtain ⟨a, b, h, _⟩ := h
  exact (List.getElem?_eq_some_iff.mp h).1
theorem Up.vt {m m' : Mem} {k : Nat} (h : Up m k m') (hv : Vt m k) : Vt m' k := by
  obtain ⟨a, b, rfl, h⟩ := h
  exact ⟨a, b, by rw [List.getElem?_set_self hv.lt], h⟩
theorem Up.len {m m' : Mem} {k : Nat} (h : Up m k m') : m'.length = m.length := by
  obtain ⟨a, b, rfl, h⟩ := h; simp
theorem Up.trans {m m' m'' : Mem} {k : Nat} (h : Up m k m') (h' : Up m' k m'') : Up m k m'' := by
  obtain ⟨a, b, rfl, h⟩ := h
  obtain ⟨c, d, rfl, h'⟩ := h'
  exact ⟨c, d, by rw [List.set_set], h'⟩
theorem Up.rfl' {m : Mem} {k : Nat} (h : Vt m k) : Up m k m := by
  obtain ⟨a, b, h, h'⟩ := h
  refine ⟨a, b, ?_, h'⟩
  obtain ⟨h1, h2⟩ := List.getElem?_eq_some_iff.mp h
  rw [← h2, List.set_getElem_self]
theorem Up.take {m m' : Mem} {k : Nat} (h : Up m k m') : m'.take m.length = m' := by
  rw [← h.len, List.take_length]
theorem bi_mulr {i j : Int} (h : small j = true) : binD .mul (.int i) (.int j) = some (.d (.int (i * j))) := by
  unfold binD; dsimp only; rw [h, Bool.or_true, if_pos (Eq.refl true)]
theorem bi_mull {i j : Int} (h : small i = true) : binD .mul (.int i) (.int j) = some (.d (.int (i * j))) := by
  unfold binD; dsimp only; rw [h, Bool.true_or, if_pos (Eq.refl true)]
theorem bi_mod {i j : Int} (h : 0 < j) : binD .mod (.int i) (.int j) = some (.d (.int (i % j))) := by
  unfold binD; dsimp only; rw [if_pos h]
theorem bi_fdiv {i j : Int} (h : 0 < j) (h2 : j < 1073741824) : binD .fdiv (.int i) (.int j) = some (.d (.int (i / j))) := by
  unfold binD; dsimp only; rw [if_pos ⟨h, h2⟩]
def stH (env : EnvT) (k : Nat) (y : Int) : SV → Option MO → Mem → O
  | .d (.int j), some (.nums ns), m => if 0 ≤ j ∧ j.toNat < ns.length then .nx env (m.set k (.nums (ns.set j.toNat y))) else .no
  | _, _, _ => .no
theorem stE_h {i k : Nat} {env : EnvT} {y : Int} {m : Mem} {ri : Mem → R SV} : stE i env (.ok (.d (.int y)) m) ri (some (some (.h k))) = .of (ri m) fun w m => stH env k y w m[k]? m := by
  unfold stE
  show O.of _ _ = _
  rw [of_ok]
  congr
  funext w m
  cases w with
  | d x =>
    cases x with
    | int j => show (match m[k]? with | some (.nums ns) => _ | none => _) = _; rcases m[k]? with _ | ⟨ns⟩ <;> exact Eq.trans rfl rfl
    | _ => rfl
  | _ => rfl
theorem stH_0 {env : EnvT} {k : Nat} {y a b : Int} {m : Mem} : stH env k y (.d (.int 0)) (some (.nums [a, b])) m = .nx env (m.set k (.nums [y, b])) := Eq.trans rfl rfl
theorem stH_1 {env : EnvT} {k : Nat} {y a b : Int} {m : Mem} : stH env k y (.d (.int 1)) (some (.nums [a, b])) m = .nx env (m.set k (.nums [a, y])) := Eq.trans rfl rfl
theorem take_set {m : Mem} {k : Nat} {x : MO} : (m.set k x).take m.length = m.set k x := by
  rw [List.take_of_length_le (by rw [List.length_set]; exact Nat.le_refl _)]
theorem small_of {i : Int} (h1 : -4294967296 < i) (h2 : i < 4294967296) : small i = true := by
  unfold small
  rw [Bool.and_eq_true, decide_eq_true_eq, decide_eq_true_eq]
  constructor
  · have : (-(2 ^ 64 : Int)) < -4294967296 := by decide
    omega
  · have : (4294967296 : Int) < 2 ^ 64 := by decide
    omega
section
variable {N : Nat} {m : Mem} {k : Nat}
theorem c_law_under {many : Int} (h : 1 ≤ N) (hv : Vt m k) (h1 : 1 ≤ many) (h2 : many < 100000) : ∃ f m', C N 11 [.h k, .d (.int many)] m = .ok (.d (.int f)) m' ∧ 0 ≤ f ∧ f < many ∧ Up m k m' := by
  have hk := hv.lt
  obtain ⟨a, b, hm, ha, hb, hb2⟩ := hv
  rw [C_unf t_law_under h, f_law_under]
  have s1 : ((m.set k (.nums [a, (b * 39373 + 101) % 2147483629]))[k]? : Option MO) = some (.nums [a, (b * 39373 + 101) % 2147483629]) := by rw [List.getElem?_set_self hk]
  have n0 : 0 ≤ (b * 39373 + 101) % 2147483629 := Int.emod_nonneg _ (by decide)
  have n1 : (b * 39373 + 101) % 2147483629 < 2147483629 := Int.emod_lt_of_pos _ (by decide)
  have sm : small ((b * 39373 + 101) % 2147483629) = true := small_of (by omega) (by omega)
  have sm2 : small 39373 = true := by decide
  by_cases hp : 0 < a
  · have d1 : decide (0 < a) = true := decide_eq_true hp
    refine ⟨a % many, m.set k (.nums [a / many, b]), ?_, Int.emod_nonneg _ (by omega), Int.emod_lt_of_pos _ (by omega), a / many, b, rfl, Int.ediv_nonneg ha (by omega), hb, hb2⟩
    simp_arith [hm, d1, bi_mod, bi_fdiv, stE_h, stH_0, take_set]
  · have d1 : decide (0 < a) = false := decide_eq_false hp
    refine ⟨((b * 39373 + 101) % 2147483629 * ((b * 39373 + 101) % 2147483629 / 5 + 9) % 2147483587 / 32) % many, m.set k (.nums [a, (b * 39373 + 101) % 2147483629]), ?_, Int.emod_nonneg _ (by omega), Int.emod_lt_of_pos _ (by omega), a, _, rfl, ha, n0, by omega⟩
    simp_arith [hm, d1, bi_mulr, bi_mull, bi_mod, bi_fdiv, stE_h, stH_1, take_set, s1]
theorem c_law_vat {ns : List Int} {i : Nat} (h : 1 ≤ N) (hi : i < 1000) (hl : ns.length ≤ 1000000) : ∃ a b, C N 10 [.s ns, .d (.int (i : Nat))] m = .ok (.own [.int a, .int b]) m ∧ VatOk a b := by
  have s0 : small 7919 = true := by decide
  have s1 : small 131071 = true := by decide
  have s2 : small 8191 = true := by decide
  have key : ∀ cell : Int, 0 ≤ cell → VatOk (if decide (((10 ^ 18 : Nat) : Int) ≤ cell) = true then cell else 0) ((cell * 131071 + 8191 * (i : Int) + 5) % 2147483629 + 1) := fun cell hc => by
    refine ⟨by split <;> omega, ?_, ?_⟩
    · have := Int.emod_nonneg (cell * 131071 + 8191 * (i : Int) + 5) (show (2147483629 : Int) ≠ 0 by decide)
      omega
    · have := Int.emod_lt_of_pos (cell * 131071 + 8191 * (i : Int) + 5) (show (0 : Int) < 2147483629 by decide)
      omega
  rw [C_unf t_law_vat h, f_law_vat]
  by_cases hlt : i < ns.length
  · have d1 : decide ((i : Int) < (ns.length : Nat)) = true := decide_eq_true (by omega)
    have e1 : at_ ns (i : Int) = some (ns.getD i 0) := by rw [at_nat, List.getD_eq_getElem?_getD, List.getElem?_eq_getElem hlt]; rfl
    refine ⟨_, _, ?_, key (if ns.getD i 0 < 0 then -ns.getD i 0 else ns.getD i 0) (by split <;> omega)⟩
    simp_arith [bi_mull, bi_mulr, bi_mod, d1, e1]
    cases decide (((10 ^ 18 : Nat) : Int) ≤ if ns.getD i 0 < 0 then -ns.getD i 0 else ns.getD i 0) <;> simp_arith
  · have d1 : decide ((i : Int) < (ns.length : Nat)) = false := decide_eq_false (by omega)
    refine ⟨_, _, ?_, key (7919 * (i : Int) + 43) (by omega)⟩
    simp_arith [bi_mull, bi_mulr, bi_mod, d1]
    cases decide (((10 ^ 18 : Nat) : Int) ≤ 7919 * (i : Int) + 43) <;> simp_arith
end
theorem mm_ok {lo hi l : Int} (h0 : 0 ≤ lo) (h : lo ≤ hi) : ∃ K : Nat, (K : Int) ≤ hi ∧ (if (if l < hi then l else hi) > lo then (if l < hi then l else hi) else lo) = (K : Int) := by
  by_cases h1 : (if l < hi then l else hi) > lo
  · rw [if_pos h1]
    refine ⟨(if l < hi then l else hi).toNat, ?_, ?_⟩
    · by_cases h2 : l < hi
      · rw [if_pos h2] at *; omega
      · rw [if_neg h2] at *; omega
    · rw [Int.toNat_of_nonneg (by omega)]
  · rw [if_neg h1]
    exact ⟨lo.toNat, by omega, by omega⟩
/-! ### loops that change the store -/
section
variable {α : Type} {b : EnvT → Mem → O} {tg : Tg}
theorem fl_mem {enc : α → SV} (I : EnvT → Mem → Prop) : ∀ (xs : List α), (∀ x env m, x ∈ xs → I env m → ∃ e' env' m', bindT tg (enc x) env = some e' ∧ b e' m = .nx env' m' ∧ I env' m') →
    ∀ env m, I env m → ∃ env' m', forL tg b (xs.map enc) env m = .nx env' m' ∧ I env' m'
  | [], _, env, m, h => ⟨env, m, rfl, h⟩
  | x :: xs, hs, env, m, h => by
    obtain ⟨e', env', m', h1, h2, h3⟩ := hs x env m (.head _) h
    obtain ⟨env'', m'', h4, h5⟩ := fl_mem (enc := enc) I xs (fun y e m hy hi => hs y e m (.tail _ hy) hi) env' m' h3
    refine ⟨env'', m'', ?_, h5⟩
    rw [List.map_cons, fL_cons, h1, fLK_s, h2, seq_nx, h4]
end
end Tn

set_option maxRecDepth 100000
namespace Tn
open PySem
local macro_rules | `(tactic| simp_arith [$ls,*]) => `(tactic| simp (disch := first | assumption | omega | rfl | decide) only [$ls,*, runF_mk, LIM_eq, fLK_s, fL_nil, apE_o, x_sti, e_glo, gloK_s, e_cav, cvK_f, kdK_s, kdL_s, e_kdc, newK_o, len_rng, initE_eq, fin_nx, fin_rt, fin_ex, fin_ite, bind_ok, bind_ex, bind_no, bind_ite, of_ok, of_ex, of_no, of_ite, seq_nx, seq_rt, seq_ex, seq_no, seq_ite, bd_d, bd_own, bd_p, bd_ex, bd_ite, lift_some, lift_none, lift_ite, map_some, map_none, opd_d, opd_own, opd_p, toD_d, toD_own, md_nil, md_d, md_own, ma_nil, ma_d, ma_own, ma_h, ma_f, ma_s, mo_nil, mo_d, mo_own, mo_p, e_var, v_own, v_d, v_h, v_f, v_s, e_cst, e_fnr, e_pow, e_bin, e_neg, negI, e_cmp, e_chn, chK_b, e_isn, nn_none, nn_bool, nn_int, nn_str, nn_tup, nn_list, nn_own, nn_p, e_isb, bk_b, bk_n, e_ands, e_ors, e_not, bK_b, e_ite, noP_d, noP_own, noP_ex, noP_ite, e_tup, e_lst, tupK_s, lstK_s, e_idx, ixK_d, ixK_own, ixK_p, ixK_h, ixK_s, memK_s, e_slo, e_shi, e_rev, e_call, clK_s, e_blt, bl2_s, bl2_d, bl2_own, bl2_p, blO_s, e_isi, e_sse, e_lrg, e_trg, e_cm1, cmK_ok, e_cm2, cmK2_ok, e_ler, e_tnot, tnK_b, tnK_i, x_frz, bi_addB, bi_subB, bl_strb, lerK_ok, lerK_ex, lerO_s, lerK_ite, s_nil, s_cons, a_one, a_cons, o_one, o_cons, t_nil, t_cons, tK_b, i_dat, datK_t, datK_l, datK_o, datK_p, i_rng, i_rng2, rng2K_i, rngK_i, i_enm, enm2_t, enm2_l, enm2_o, enm2_p, i_fns, bT_one, bT_onef, bT_tup, x_asg, setS_d, setS_o, setS_f, x_asgs, setK_s, sA_nil, sA_d, sA_o, x_unp, x_newh, appK_s, x_app, x_exp, x_retv, x_ret, rtK_d, rtK_o, x_retN, x_ifs, ifK_b, x_whl, x_fr, x_rai, x_raiv, raK_i, b_nil, b_cons, b_dct, dcK_s, dcO_ok, frz_e, frz_v, frz_ev, frz_r, frz_r2, frz_f, fz_eq, fzK_d, fzK_o, wipe_nil, wipe_cons, c_lt, c_le, c_gt, c_ge, c_eqi, c_nei, c_eqs, c_nes, c_eqb, c_neb, c_eqn, c_nen, c_eqtn, c_netn, bi_add, bi_sub, bi_addt, bi_addl, bi_adds, bl_lent, bl_lenl, bl_tup, bl_int, bl_bool, bl_abs, bl_min, bl_max, ix_t, ix_l, at_0, at_1, at_2, at_3, at_4, isiD, dbl_eq, ite_okb, ite_okB, ite_tb, ite_bt, ite_ft, ite_fx, List.length_cons, List.length_nil, List.map_cons, List.map_nil, List.length_map, List.cons_append, List.nil_append, List.append_nil, Nat.reduceAdd, Nat.reduceSub, Nat.reduceLeDiff, Nat.reduceLT, Nat.zero_add, List.reduceReplicate, List.getElem?_cons_zero, List.getElem?_cons_succ, List.set_cons_zero, List.set_cons_succ, List.zip_cons_cons, List.zip_nil_left, List.zip_nil_right, List.foldl_cons, List.foldl_nil, List.all_cons, List.all_nil, List.take_length, and_true, true_and, if_true, if_false, ite_true, ite_false, if_pos, ↓reduceIte, Bool.false_eq_true, Bool.not_true, Bool.not_false, Bool.true_and, Bool.and_true, Bool.false_and, Bool.and_false, Bool.false_or, Bool.or_false, Bool.true_or, Bool.or_true, Bool.not_not, decide_true, decide_false, bne_self_eq_false, Bool.bne_false, Bool.bne_true, and_self])
local macro_rules | `(tactic| simp_arith) => `(tactic| simp (disch := first | assumption | omega | rfl | decide) only [runF_mk, LIM_eq, fLK_s, fL_nil, apE_o, x_sti, e_glo, gloK_s, e_cav, cvK_f, kdK_s, kdL_s, e_kdc, newK_o, len_rng, initE_eq, fin_nx, fin_rt, fin_ex, fin_ite, bind_ok, bind_ex, bind_no, bind_ite, of_ok, of_ex, of_no, of_ite, seq_nx, seq_rt, seq_ex, seq_no, seq_ite, bd_d, bd_own, bd_p, bd_ex, bd_ite, lift_some, lift_none, lift_ite, map_some, map_none, opd_d, opd_own, opd_p, toD_d, toD_own, md_nil, md_d, md_own, ma_nil, ma_d, ma_own, ma_h, ma_f, ma_s, mo_nil, mo_d, mo_own, mo_p, e_var, v_own, v_d, v_h, v_f, v_s, e_cst, e_fnr, e_pow, e_bin, e_neg, negI, e_cmp, e_chn, chK_b, e_isn, nn_none, nn_bool, nn_int, nn_str, nn_tup, nn_list, nn_own, nn_p, e_isb, bk_b, bk_n, e_ands, e_ors, e_not, bK_b, e_ite, noP_d, noP_own, noP_ex, noP_ite, e_tup, e_lst, tupK_s, lstK_s, e_idx, ixK_d, ixK_own, ixK_p, ixK_h, ixK_s, memK_s, e_slo, e_shi, e_rev, e_call, clK_s, e_blt, bl2_s, bl2_d, bl2_own, bl2_p, blO_s, e_isi, e_sse, e_lrg, e_trg, e_cm1, cmK_ok, e_cm2, cmK2_ok, e_ler, e_tnot, tnK_b, tnK_i, x_frz, bi_addB, bi_subB, bl_strb, lerK_ok, lerK_ex, lerO_s, lerK_ite, s_nil, s_cons, a_one, a_cons, o_one, o_cons, t_nil, t_cons, tK_b, i_dat, datK_t, datK_l, datK_o, datK_p, i_rng, i_rng2, rng2K_i, rngK_i, i_enm, enm2_t, enm2_l, enm2_o, enm2_p, i_fns, bT_one, bT_onef, bT_tup, x_asg, setS_d, setS_o, setS_f, x_asgs, setK_s, sA_nil, sA_d, sA_o, x_unp, x_newh, appK_s, x_app, x_exp, x_retv, x_ret, rtK_d, rtK_o, x_retN, x_ifs, ifK_b, x_whl, x_fr, x_rai, x_raiv, raK_i, b_nil, b_cons, b_dct, dcK_s, dcO_ok, frz_e, frz_v, frz_ev, frz_r, frz_r2, frz_f, fz_eq, fzK_d, fzK_o, wipe_nil, wipe_cons, c_lt, c_le, c_gt, c_ge, c_eqi, c_nei, c_eqs, c_nes, c_eqb, c_neb, c_eqn, c_nen, c_eqtn, c_netn, bi_add, bi_sub, bi_addt, bi_addl, bi_adds, bl_lent, bl_lenl, bl_tup, bl_int, bl_bool, bl_abs, bl_min, bl_max, ix_t, ix_l, at_0, at_1, at_2, at_3, at_4, isiD, dbl_eq, ite_okb, ite_okB, ite_tb, ite_bt, ite_ft, ite_fx, List.length_cons, List.length_nil, List.map_cons, List.map_nil, List.length_map, List.cons_append, List.nil_append, List.append_nil, Nat.reduceAdd, Nat.reduceSub, Nat.reduceLeDiff, Nat.reduceLT, Nat.zero_add, List.reduceReplicate, List.getElem?_cons_zero, List.getElem?_cons_succ, List.set_cons_zero, List.set_cons_succ, List.zip_cons_cons, List.zip_nil_left, List.zip_nil_right, List.foldl_cons, List.foldl_nil, List.all_cons, List.all_nil, List.take_length, and_true, true_and, if_true, if_false, ite_true, ite_false, if_pos, ↓reduceIte, Bool.false_eq_true, Bool.not_true, Bool.not_false, Bool.true_and, Bool.and_true, Bool.false_and, Bool.and_false, Bool.false_or, Bool.or_false, Bool.true_or, Bool.or_true, Bool.not_not, decide_true, decide_false, bne_self_eq_false, Bool.bne_false, Bool.bne_true, and_self])
/-! ### the laws' own closing -/
def lcA (w : W) (l : List Int) : List Int := if ((decide (w.wd = .same) || decide (w.wd = .covers)) && hasAll l w.a) = true then joinF l w.b else l
def lcB (w : W) (l : List Int) : List Int := if (decide (w.wd = .same) && hasAll l w.b) = true then joinF l w.a else l
def lcR (ws : List W) (l : List Int) : List Int := ws.foldl (fun l w => lcB w (lcA w l)) l
def lcN (ws : List W) : Nat → List Int → Option (List Int)
  | 0, _ => none
  | k + 1, l => if lcR ws l = l then some l else lcN ws k (lcR ws l)
def lcF (ws : List W) (mx : List Int) : List Int := (lcN ws 90 mx).getD []
theorem joinF_mix {n : Nat} {a b : List Int} (ha : MixR n a) (hb : MixR n b) : MixR n (joinF a b) := by
  refine ⟨rise_sort_ded, fun p hp => ?_⟩
  rcases mem_joinF.mp hp with h | h
  · exact ha.2 p h
  · exact hb.2 p h
theorem lcA_mix {n : Nat} {w : W} {l : List Int} (hw : MixR n w.a ∧ MixR n w.b) (h : MixR n l) : MixR n (lcA w l) ∧ Sub l (lcA w l) := by
  unfold lcA; split
  · exact ⟨joinF_mix h hw.2, fun x hx => mem_joinF.mpr (.inl hx)⟩
  · exact ⟨h, Sub.refl l⟩
theorem lcB_mix {n : Nat} {w : W} {l : List Int} (hw : MixR n w.a ∧ MixR n w.b) (h : MixR n l) : MixR n (lcB w l) ∧ Sub l (lcB w l) := by
  unfold lcB; split
  · exact ⟨joinF_mix h hw.1, fun x hx => mem_joinF.mpr (.inl hx)⟩
  · exact ⟨h, Sub.refl l⟩
theorem lcR_mix {n : Nat} : ∀ {ws : List W} {l : List Int}, WsR n ws → MixR n l → MixR n (lcR ws l) ∧ Sub l (lcR ws l)
  | [], l, _, h => ⟨h, Sub.refl l⟩
  | w :: ws, l, hf, h => by
    have h1 := lcA_mix (hf w (.head _)) h
    have h2 := lcB_mix (hf w (.head _)) h1.1
    have h3 := lcR_mix (ws := ws) (fun x hx => hf x (.tail _ hx)) h2.1
    exact ⟨h3.1, h1.2.trans (h2.2.trans h3.2)⟩
theorem lcR_least {n : Nat} {S : List Int} : ∀ {ws : List W} {l : List Int}, WsR n ws → Sub l S → Cld ws S → Sub (lcR ws l) S
  | [], l, _, h, _ => h
  | w :: ws, l, hf, h, hc => by
    have hw := hc w (.head _)
    have h1 : Sub (lcA w l) S := by
      unfold lcA; split
      · rename_i q
        rw [Bool.and_eq_true, hasAll_iff] at q
        exact sub_join.mpr ⟨h, hw.1 (by simpa using q.1) (q.2.trans h)⟩
      · exact h
    have h2 : Sub (lcB w (lcA w l)) S := by
      unfold lcB; split
      · rename_i q
        rw [Bool.and_eq_true, hasAll_iff] at q
        exact sub_join.mpr ⟨h1, hw.2 (by simpa using q.1) (q.2.trans h1)⟩
      · exact h1
    exact lcR_least (ws := ws) (fun x hx => hf x (.tail _ hx)) h2 fun x hx => hc x (.tail _ hx)
theorem lcR_fix {n : Nat} : ∀ {ws : List W} {l : List Int}, WsR n ws → MixR n l → lcR ws l = l → Cld ws l
  | [], l, _, _, _ => fun w hw => by cases hw
  | w :: ws, l, hf, h, e => by
    have h1 := lcA_mix (hf w (.head _)) h
    have h2 := lcB_mix (hf w (.head _)) h1.1
    have h3 := lcR_mix (ws := ws) (fun x hx => hf x (.tail _ hx)) h2.1
    have e' : lcR ws (lcB w (lcA w l)) = l := e
    rw [e'] at h3
    have e2 : lcB w (lcA w l) = l := rise_ext h2.1.1 h.1 fun y => ⟨h3.2 y, fun q => h2.2 y (h1.2 y q)⟩
    have e1 : lcA w l = l := rise_ext h1.1.1 h.1 fun y => ⟨fun q => by have := h2.2 y q; rw [e2] at this; exact this, h1.2 y⟩
    rw [e2] at e'
    rw [e1] at e2
    have ih := lcR_fix (ws := ws) (fun x hx => hf x (.tail _ hx)) h e'
    intro x hx
    rcases List.mem_cons.mp hx with rfl | hx
    · constructor
      · intro hw hs
        have : joinF l x.b = l := by
          have q := e1
          unfold lcA at q
          rw [if_pos (by rw [Bool.and_eq_true, hasAll_iff]; exact ⟨by simpa using hw, hs⟩)] at q
          exact q
        exact fun z hz => by rw [← this]; exact mem_joinF.mpr (.inr hz)
      · intro hw hs
        have : joinF l x.a = l := by
          have q := e2
          unfold lcB at q
          rw [if_pos (by rw [Bool.and_eq_true, hasAll_iff]; exact ⟨by simpa using hw, hs⟩)] at q
          exact q
        exact fun z hz => by rw [← this]; exact mem_joinF.mpr (.inr hz)
    · exact ih x hx
theorem lcN_is {n : Nat} {ws : List W} (hf : WsR n ws) : ∀ (k : Nat) (l : List Int), MixR n l → n < k + l.length → ∃ r, lcN ws k l = some r ∧ IsCl n ws l r
  | 0, l, h, hk => by have := h.len; omega
  | k + 1, l, h, hk => by
    rw [lcN]
    have h1 := lcR_mix hf h
    by_cases q : lcR ws l = l
    · rw [if_pos q]
      exact ⟨l, rfl, h, Sub.refl l, lcR_fix hf h q, fun S hs _ => hs⟩
    · rw [if_neg q]
      have : l.length < (lcR ws l).length := by
        have a1 := sub_len h.1 h1.1.1 h1.2
        rcases Nat.lt_or_ge l.length (lcR ws l).length with h2 | h2
        · exact h2
        · exact absurd (sub_eq h.1 h1.1.1 h1.2 h2).symm q
      obtain ⟨r, e, c⟩ := lcN_is hf k (lcR ws l) h1.1 (by omega)
      exact ⟨r, e, c.mix, h1.2.trans c.sup, c.cld, fun S hs hc => c.least S (lcR_least hf hs hc) hc⟩
theorem lcF_is {n : Nat} {ws : List W} (hf : WsR n ws) (hn : n ≤ 30) {mx : List Int} (h : MixR n mx) : lcN ws 90 mx = some (lcF ws mx) ∧ IsCl n ws mx (lcF ws mx) := by
  obtain ⟨r, e, c⟩ := lcN_is hf 90 mx h (by omega)
  unfold lcF
  rw [e]
  exact ⟨rfl, c⟩
/-- one wish, held against the closings -/
def lcanW (ws : List W) (w : W) : Bool := !(decide (w.wd = .unlike) && decide (lcF ws w.a = lcF ws w.b)) && !(decide (w.wd = .bares) && hasAll (lcF ws w.a) w.b)
def lcanF (ws : List W) : Bool := ws.all (lcanW ws)
theorem lcanF_is {n : Nat} {ws : List W} (hf : WsR n ws) (hn : n ≤ 30) : lcanF ws = canF n ws := by
  have := can_cl hf (lcF ws) fun m hm => (lcF_is hf hn hm).2
  rw [Bool.eq_iff_iff, this]
  unfold lcanF
  rw [List.all_eq_true]
  have key : ∀ w, lcanW ws w = true ↔ ((w.wd = .unlike → lcF ws w.a ≠ lcF ws w.b) ∧ (w.wd = .bares → ¬ Sub w.b (lcF ws w.a))) := fun w => by
    unfold lcanW
    rw [← hasAll_iff]
    by_cases h1 : w.wd = .unlike <;> by_cases h2 : lcF ws w.a = lcF ws w.b <;> by_cases h3 : w.wd = .bares <;> cases hasAll (lcF ws w.a) w.b <;> simp_all
  exact ⟨fun h w hw => (key w).mp (h w hw), fun h w hw => (key w).mpr (h w hw)⟩
section
variable {N : Nat} {m : Mem} {n : Nat} {ws : List W} {mx : List Int}
theorem c_law_has {mx pt : List Int} (h : 1 ≤ N) (hm : pt.length ≤ 1000) : C N 21 [.d (.tuple (mx.map .int)), .d (.tuple (pt.map .int))] m = .ok (.d (.bool (hasAll mx pt))) m := by
  rw [C_unf t_law_has h, f_law_has]
  simp_arith
  rw [cL1 (fun p => !decide (p ∈ mx)) .int (by simp) (fun y _ => by simp_arith [c_ninI]) (fun y _ _ => by simp_arith)]
  simp_arith [isEmpty_map, isEmpty_filt]
  rfl
theorem c_law_joined {a b : List Int} (h : 1 ≤ N) (hl : a.length + b.length < 64) : C N 20 [.d (.tuple (a.map .int)), .d (.tuple (b.map .int))] m = .ok (.d (.tuple ((joinF a b).map .int))) m := by
  rw [C_unf t_law_joined h, f_law_joined]
  simp_arith
  rw [← List.map_append]
  rw [cL0 .int (by simp) (fun y _ => by simp_arith) (fun y _ => by simp_arith)]
  simp_arith [List.length_append]
  rw [sset_int (by rw [List.length_append]; exact hl)]
  simp_arith
  rfl
def lcBd : Ss := (.cons (.ifs (.ands (.cons (.cmp .isin (.var 3) (.tup (.cons (.cst (.str (.ofString "same"))) (.cons (.cst (.str (.ofString "covers"))) .nil)))) (.cons (.call 21 (.cons (.var 1) (.cons (.var 4) .nil))) .nil))) (.cons (.asg 1 (.call 20 (.cons (.var 1) (.cons (.var 5) .nil)))) .nil) .nil) (.cons (.ifs (.ands (.cons (.cmp .eq (.var 3) (.cst (.str (.ofString "same")))) (.cons (.call 21 (.cons (.var 1) (.cons (.var 5) .nil))) .nil))) (.cons (.asg 1 (.call 20 (.cons (.var 1) (.cons (.var 4) .nil)))) .nil) .nil) .nil))
theorem lc_one {F B : Option SV} {w : W} {l : List Int} (h : 1 ≤ N) (hn : n ≤ 30) (hw : MixR n w.a ∧ MixR n w.b) (hl : MixR n l) :
    exB glob (C N) lcBd [F, some (.d (.tuple (l.map .int))), B, some (.d (.str w.wd.s)), some (.d (.tuple (w.a.map .int))), some (.d (.tuple (w.b.map .int)))] m
      = .nx [F, some (.d (.tuple ((lcB w (lcA w l)).map .int))), B, some (.d (.str w.wd.s)), some (.d (.tuple (w.a.map .int))), some (.d (.tuple (w.b.map .int)))] m := by
  have a1 := hw.1.len
  have a2 := hw.2.len
  have a3 := hl.len
  have h1 := lcA_mix hw hl
  have a4 := (joinF_mix hl hw.2).len
  unfold lcBd lcB lcA
  simp_arith [c_in2, wd_same, wd_covers, c_law_has, c_law_joined]
  cases decide (w.wd = .same) <;> cases decide (w.wd = .covers) <;> cases hasAll l w.a <;> (simp_arith [c_in2, wd_same, wd_covers, c_law_has, c_law_joined]; try rfl)
  all_goals first
    | (cases hasAll l w.b <;> (simp_arith; try rfl); done)
    | (cases hasAll (joinF l w.b) w.b <;> (simp_arith; try rfl); done)
theorem lc_round {F B : Option SV} (h : 1 ≤ N) (hn : n ≤ 30) : ∀ (vs : List W) (l : List Int) (a b c : Option SV), WsR n vs → MixR n l → ∃ a' b' c',
    forL (.tup [3, 4, 5]) (exB glob (C N) lcBd) ((vs.map eW).map .d) [F, some (.d (.tuple (l.map .int))), B, a, b, c] m = .nx [F, some (.d (.tuple ((lcR vs l).map .int))), B, a', b', c'] m
  | [], l, a, b, c, _, _ => ⟨a, b, c, rfl⟩
  | w :: vs, l, a, b, c, hf, hl => by
    have hw := hf w (.head _)
    obtain ⟨a', b', c', e⟩ := lc_round (F := F) (B := B) h hn vs (lcB w (lcA w l)) (some (.d (.str w.wd.s))) (some (.d (.tuple (w.a.map .int)))) (some (.d (.tuple (w.b.map .int)))) (fun x hx => hf x (.tail _ hx)) (lcB_mix hw (lcA_mix hw hl).1).1
    refine ⟨a', b', c', ?_⟩
    have e1 := lc_one (m := m) (F := F) (B := B) h hn hw hl
    rw [List.map_cons, List.map_cons, fL_cons]
    rw [eW]
    simp_arith [e1]
    exact e
def lcW : Ss := (.cons (.asg 2 (.var 1)) (.cons (.fr (.tup [3, 4, 5]) (.dat (.var 0)) lcBd) .nil))
theorem lc_while (h : 1 ≤ N) (hn : n ≤ 30) (hf : WsR n ws) : ∀ (k : Nat) (l r : List Int) (x : D) (a b c : Option SV), MixR n l → lcN ws k l = some r → cmpD .ne x (.tuple (l.map .int)) = some true →
    ∃ x' a' b' c', whileL (evE glob (C N) (.cmp .ne (.var 2) (.var 1))) (exB glob (C N) lcW) (k + 1) [some (.d (.tuple (ws.map eW))), some (.d (.tuple (l.map .int))), some (.d x), a, b, c] m
      = .nx [some (.d (.tuple (ws.map eW))), some (.d (.tuple (r.map .int))), x', a', b', c'] m
  | 0, l, r, x, a, b, c, hl, hg, hx => by cases hg
  | k + 1, l, r, x, a, b, c, hl, hg, hx => by
    rw [lcN] at hg
    obtain ⟨a', b', c', e⟩ := lc_round (m := m) (F := some (.d (.tuple (ws.map eW)))) (B := some (.d (.tuple (l.map .int)))) h hn ws l a b c hf hl
    have hr := (lcR_mix hf hl).1
    rw [wL_succ]
    have e1 : exB glob (C N) lcW [some (.d (.tuple (ws.map eW))), some (.d (.tuple (l.map .int))), some (.d x), a, b, c] m = .nx [some (.d (.tuple (ws.map eW))), some (.d (.tuple ((lcR ws l).map .int))), some (.d (.tuple (l.map .int))), a', b', c'] m := by
      unfold lcW
      simp_arith [e]
    have e2 : evE glob (C N) (.cmp .ne (.var 2) (.var 1)) [some (.d (.tuple (ws.map eW))), some (.d (.tuple (l.map .int))), some (.d x), a, b, c] m = .ok (.d (.bool true)) m := by simp_arith [hx]
    rw [e2, of_ok, ifK_b, if_pos rfl, e1, seq_nx]
    by_cases hq : lcR ws l = l
    · rw [if_pos hq] at hg
      cases hg
      refine ⟨some (.d (.tuple (l.map .int))), a', b', c', ?_⟩
      rw [wL_succ]
      have e3 : evE glob (C N) (.cmp .ne (.var 2) (.var 1)) [some (.d (.tuple (ws.map eW))), some (.d (.tuple ((lcR ws l).map .int))), some (.d (.tuple (l.map .int))), a', b', c'] m = .ok (.d (.bool false)) m := by simp_arith [c_neI, hq]
      rw [e3, of_ok, ifK_b, if_neg (by decide), hq]
    · rw [if_neg hq] at hg
      exact lc_while h hn hf k (lcR ws l) r _ a' b' c' hr hg (by rw [c_neI]; simp; exact fun z => hq z.symm)
theorem c_law_closed (h : 2 ≤ N) (hn : n ≤ 30) (hf : WsR n ws) (hm : MixR n mx) : C N 22 [.d (.tuple (ws.map eW)), .d (.tuple (mx.map .int))] m = .ok (.d (.tuple ((lcF ws mx).map .int))) m := by
  have hg := (lcF_is hf hn hm).1
  have mono : ∀ k l r, lcN ws k l = some r → lcN ws (k + 9) l = some r := by
    intro k
    induction k with
    | zero => intro l r h; cases h
    | succ k ih =>
      intro l r h
      rw [lcN] at h
      rw [show k + 1 + 9 = (k + 9) + 1 by omega, lcN]
      split at h
      · rename_i q; rw [if_pos q]; exact h
      · rename_i q; rw [if_neg q]; exact ih _ _ h
  rw [C_unf t_law_closed (by omega), f_law_closed]
  simp_arith
  obtain ⟨x', a', b', c', e⟩ := lc_while (N := N - 1) (m := m) (by omega) hn hf 99 mx (lcF ws mx) .none none none none hm (mono 90 _ _ hg) ne_none_t
  unfold lcW lcBd at e
  rw [e]
  simp_arith
def lcanB : Ss := (.cons (.asg 4 (.call 22 (.cons (.var 0) (.cons (.var 2) .nil)))) (.cons (.ifs (.ands (.cons (.cmp .eq (.var 1) (.cst (.str (.ofString "unlike")))) (.cons (.cmp .eq (.var 4) (.call 22 (.cons (.var 0) (.cons (.var 3) .nil)))) .nil))) (.cons (.ret (.cst (.bool false))) .nil) .nil) (.cons (.ifs (.ands (.cons (.cmp .eq (.var 1) (.cst (.str (.ofString "bares")))) (.cons (.call 21 (.cons (.var 4) (.cons (.var 3) .nil))) .nil))) (.cons (.ret (.cst (.bool false))) .nil) .nil) .nil)))
theorem lcan_loop (h : 2 ≤ N) (hn : n ≤ 30) (hf : WsR n ws) : ∀ (vs : List W) (a b c d : Option SV), WsR n vs → ∃ a' b' c' d',
    forL (.tup [1, 2, 3]) (exB glob (C N) lcanB) ((vs.map eW).map .d) [some (.d (.tuple (ws.map eW))), a, b, c, d] m = if vs.all (lcanW ws) = true then .nx [some (.d (.tuple (ws.map eW))), a', b', c', d'] m else .rt (.d (.bool false)) m
  | [], a, b, c, d, _ => ⟨a, b, c, d, rfl⟩
  | w :: vs, a, b, c, d, hv => by
    have hw := hv w (.head _)
    obtain ⟨a', b', c', d', e⟩ := lcan_loop h hn hf vs (some (.d (.str w.wd.s))) (some (.d (.tuple (w.a.map .int)))) (some (.d (.tuple (w.b.map .int)))) (some (.d (.tuple ((lcF ws w.a).map .int)))) (fun x hx => hv x (.tail _ hx))
    refine ⟨a', b', c', d', ?_⟩
    have e1 := c_law_closed (m := m) h hn hf hw.1
    have e2 := c_law_closed (m := m) h hn hf hw.2
    have l2 := hw.2.len
    rw [List.map_cons, List.map_cons, fL_cons, eW]
    unfold lcanB at e ⊢
    simp_arith [e1, e2, wd_unlike, wd_bares, c_eqI, c_law_has]
    rw [e]
    have hL : lcanW ws w = (!(decide (w.wd = .unlike) && decide (lcF ws w.a = lcF ws w.b)) && !(decide (w.wd = .bares) && hasAll (lcF ws w.a) w.b)) := rfl
    cases h1 : (decide (w.wd = .unlike) && decide (lcF ws w.a = lcF ws w.b)) <;> cases h2 : (decide (w.wd = .bares) && hasAll (lcF ws w.a) w.b) <;> rw [h1, h2] at hL <;> simp only [hL, Bool.not_true, Bool.not_false, Bool.and_true, Bool.and_false, Bool.true_and, Bool.false_and, if_true, if_false, Bool.false_eq_true]
theorem c_law_can (h : 3 ≤ N) (hn : n ≤ 30) (hf : WsR n ws) : C N 23 [.d (.tuple (ws.map eW))] m = .ok (.d (.bool (canF n ws))) m := by
  rw [C_unf t_law_can (by omega), f_law_can, ← lcanF_is hf hn]
  obtain ⟨a', b', c', d', e⟩ := lcan_loop (N := N - 1) (m := m) (by omega) hn hf ws none none none none hf
  unfold lcanB at e
  unfold lcanF
  simp_arith [e]
end
end Tn

set_option maxRecDepth 100000
namespace Tn
open PySem
local macro_rules | `(tactic| simp_arith [$ls,*]) => `(tactic| simp (disch := first | assumption | omega | rfl | decide) only [$ls,*, runF_mk, LIM_eq, fLK_s, fL_nil, apE_o, x_sti, e_glo, gloK_s, e_cav, cvK_f, kdK_s, kdL_s, e_kdc, newK_o, len_rng, initE_eq, fin_nx, fin_rt, fin_ex, fin_ite, bind_ok, bind_ex, bind_no, bind_ite, of_ok, of_ex, of_no, of_ite, seq_nx, seq_rt, seq_ex, seq_no, seq_ite, bd_d, bd_own, bd_p, bd_ex, bd_ite, lift_some, lift_none, lift_ite, map_some, map_none, opd_d, opd_own, opd_p, toD_d, toD_own, md_nil, md_d, md_own, ma_nil, ma_d, ma_own, ma_h, ma_f, ma_s, mo_nil, mo_d, mo_own, mo_p, e_var, v_own, v_d, v_h, v_f, v_s, e_cst, e_fnr, e_pow, e_bin, e_neg, negI, e_cmp, e_chn, chK_b, e_isn, nn_none, nn_bool, nn_int, nn_str, nn_tup, nn_list, nn_own, nn_p, e_isb, bk_b, bk_n, e_ands, e_ors, e_not, bK_b, e_ite, noP_d, noP_own, noP_ex, noP_ite, e_tup, e_lst, tupK_s, lstK_s, e_idx, ixK_d, ixK_own, ixK_p, ixK_h, ixK_s, memK_s, e_slo, e_shi, e_rev, e_call, clK_s, e_blt, bl2_s, bl2_d, bl2_own, bl2_p, blO_s, e_isi, e_sse, e_lrg, e_trg, e_cm1, cmK_ok, e_cm2, cmK2_ok, e_ler, e_tnot, tnK_b, tnK_i, x_frz, bi_addB, bi_subB, bl_strb, lerK_ok, lerK_ex, lerO_s, lerK_ite, s_nil, s_cons, a_one, a_cons, o_one, o_cons, t_nil, t_cons, tK_b, i_dat, datK_t, datK_l, datK_o, datK_p, i_rng, i_rng2, rng2K_i, rngK_i, i_enm, enm2_t, enm2_l, enm2_o, enm2_p, i_fns, bT_one, bT_onef, bT_tup, x_asg, setS_d, setS_o, setS_f, x_asgs, setK_s, sA_nil, sA_d, sA_o, x_unp, x_newh, appK_s, x_app, x_exp, x_retv, x_ret, rtK_d, rtK_o, x_retN, x_ifs, ifK_b, x_whl, x_fr, x_rai, x_raiv, raK_i, b_nil, b_cons, b_dct, dcK_s, dcO_ok, frz_e, frz_v, frz_ev, frz_r, frz_r2, frz_f, fz_eq, fzK_d, fzK_o, wipe_nil, wipe_cons, c_lt, c_le, c_gt, c_ge, c_eqi, c_nei, c_eqs, c_nes, c_eqb, c_neb, c_eqn, c_nen, c_eqtn, c_netn, bi_add, bi_sub, bi_addt, bi_addl, bi_adds, bl_lent, bl_lenl, bl_tup, bl_int, bl_bool, bl_abs, bl_min, bl_max, ix_t, ix_l, at_0, at_1, at_2, at_3, at_4, isiD, dbl_eq, ite_okb, ite_okB, ite_tb, ite_bt, ite_ft, ite_fx, List.length_cons, List.length_nil, List.map_cons, List.map_nil, List.length_map, List.cons_append, List.nil_append, List.append_nil, Nat.reduceAdd, Nat.reduceSub, Nat.reduceLeDiff, Nat.reduceLT, Nat.zero_add, List.reduceReplicate, List.getElem?_cons_zero, List.getElem?_cons_succ, List.set_cons_zero, List.set_cons_succ, List.zip_cons_cons, List.zip_nil_left, List.zip_nil_right, List.foldl_cons, List.foldl_nil, List.all_cons, List.all_nil, List.take_length, and_true, true_and, if_true, if_false, ite_true, ite_false, if_pos, ↓reduceIte, Bool.false_eq_true, Bool.not_true, Bool.not_false, Bool.true_and, Bool.and_true, Bool.false_and, Bool.and_false, Bool.false_or, Bool.or_false, Bool.true_or, Bool.or_true, Bool.not_not, decide_true, decide_false, bne_self_eq_false, Bool.bne_false, Bool.bne_true, and_self])
local macro_rules | `(tactic| simp_arith) => `(tactic| simp (disch := first | assumption | omega | rfl | decide) only [runF_mk, LIM_eq, fLK_s, fL_nil, apE_o, x_sti, e_glo, gloK_s, e_cav, cvK_f, kdK_s, kdL_s, e_kdc, newK_o, len_rng, initE_eq, fin_nx, fin_rt, fin_ex, fin_ite, bind_ok, bind_ex, bind_no, bind_ite, of_ok, of_ex, of_no, of_ite, seq_nx, seq_rt, seq_ex, seq_no, seq_ite, bd_d, bd_own, bd_p, bd_ex, bd_ite, lift_some, lift_none, lift_ite, map_some, map_none, opd_d, opd_own, opd_p, toD_d, toD_own, md_nil, md_d, md_own, ma_nil, ma_d, ma_own, ma_h, ma_f, ma_s, mo_nil, mo_d, mo_own, mo_p, e_var, v_own, v_d, v_h, v_f, v_s, e_cst, e_fnr, e_pow, e_bin, e_neg, negI, e_cmp, e_chn, chK_b, e_isn, nn_none, nn_bool, nn_int, nn_str, nn_tup, nn_list, nn_own, nn_p, e_isb, bk_b, bk_n, e_ands, e_ors, e_not, bK_b, e_ite, noP_d, noP_own, noP_ex, noP_ite, e_tup, e_lst, tupK_s, lstK_s, e_idx, ixK_d, ixK_own, ixK_p, ixK_h, ixK_s, memK_s, e_slo, e_shi, e_rev, e_call, clK_s, e_blt, bl2_s, bl2_d, bl2_own, bl2_p, blO_s, e_isi, e_sse, e_lrg, e_trg, e_cm1, cmK_ok, e_cm2, cmK2_ok, e_ler, e_tnot, tnK_b, tnK_i, x_frz, bi_addB, bi_subB, bl_strb, lerK_ok, lerK_ex, lerO_s, lerK_ite, s_nil, s_cons, a_one, a_cons, o_one, o_cons, t_nil, t_cons, tK_b, i_dat, datK_t, datK_l, datK_o, datK_p, i_rng, i_rng2, rng2K_i, rngK_i, i_enm, enm2_t, enm2_l, enm2_o, enm2_p, i_fns, bT_one, bT_onef, bT_tup, x_asg, setS_d, setS_o, setS_f, x_asgs, setK_s, sA_nil, sA_d, sA_o, x_unp, x_newh, appK_s, x_app, x_exp, x_retv, x_ret, rtK_d, rtK_o, x_retN, x_ifs, ifK_b, x_whl, x_fr, x_rai, x_raiv, raK_i, b_nil, b_cons, b_dct, dcK_s, dcO_ok, frz_e, frz_v, frz_ev, frz_r, frz_r2, frz_f, fz_eq, fzK_d, fzK_o, wipe_nil, wipe_cons, c_lt, c_le, c_gt, c_ge, c_eqi, c_nei, c_eqs, c_nes, c_eqb, c_neb, c_eqn, c_nen, c_eqtn, c_netn, bi_add, bi_sub, bi_addt, bi_addl, bi_adds, bl_lent, bl_lenl, bl_tup, bl_int, bl_bool, bl_abs, bl_min, bl_max, ix_t, ix_l, at_0, at_1, at_2, at_3, at_4, isiD, dbl_eq, ite_okb, ite_okB, ite_tb, ite_bt, ite_ft, ite_fx, List.length_cons, List.length_nil, List.map_cons, List.map_nil, List.length_map, List.cons_append, List.nil_append, List.append_nil, Nat.reduceAdd, Nat.reduceSub, Nat.reduceLeDiff, Nat.reduceLT, Nat.zero_add, List.reduceReplicate, List.getElem?_cons_zero, List.getElem?_cons_succ, List.set_cons_zero, List.set_cons_succ, List.zip_cons_cons, List.zip_nil_left, List.zip_nil_right, List.foldl_cons, List.foldl_nil, List.all_cons, List.all_nil, List.take_length, and_true, true_and, if_true, if_false, ite_true, ite_false, if_pos, ↓reduceIte, Bool.false_eq_true, Bool.not_true, Bool.not_false, Bool.true_and, Bool.and_true, Bool.false_and, Bool.and_false, Bool.false_or, Bool.or_false, Bool.true_or, Bool.or_true, Bool.not_not, decide_true, decide_false, bne_self_eq_false, Bool.bne_false, Bool.bne_true, and_self])
/-! ### what is drawn -/
theorem Vt.up {m m' : Mem} {k : Nat} (hv : Vt m k) (h : Up m k m') : Vt m' k := h.vt hv
section
variable {α : Type} {tst : EnvT → Mem → R Bool} {el : EnvT → Mem → R SV} {env : EnvT} {k : Nat}
/-- a comprehension whose test draws -/
theorem cLd {enc : α → SV} {dat : α → D} {tg : Tg} (e : α → EnvT) : ∀ (ys : List α) (acc : Ds) (m : Mem), Vt m k → (∀ y ∈ ys, bindT tg (enc y) env = some (e y)) →
    (∀ y ∈ ys, ∀ m, Vt m k → ∃ b m', tst (e y) m = .ok b m' ∧ Up m k m') → (∀ y ∈ ys, ∀ m, Vt m k → ∃ v, el (e y) m = .ok v m ∧ toD v = some (dat y)) →
    ∃ (zs : List α) (m' : Mem), cLoop tg tst el env (ys.map enc) acc m = .ok (acc ++ zs.map dat) m' ∧ Up m k m' ∧ zs.Sublist ys
  | [], acc, m, hv, _, _, _ => ⟨[], m, by simp [cLoop], Up.rfl' hv, .slnil⟩
  | y :: ys, acc, m, hv, h1, h2, h3 => by
    obtain ⟨b, m1, e1, u1⟩ := h2 y (.head _) m hv
    have v1 := u1.vt hv
    obtain ⟨v, e2, d2⟩ := h3 y (.head _) m1 v1
    rw [List.map_cons, cLoop, h1 y (.head _)]
    dsimp only
    rw [e1]
    cases b with
    | true =>
      dsimp only
      rw [e2]
      dsimp only
      rw [d2]
      dsimp only
      obtain ⟨zs, m', e3, u3, s3⟩ := cLd (enc := enc) (dat := dat) (tg := tg) e ys (acc ++ [dat y]) m1 v1 (fun z hz => h1 z (.tail _ hz)) (fun z hz => h2 z (.tail _ hz)) (fun z hz => h3 z (.tail _ hz))
      exact ⟨y :: zs, m', by rw [e3, List.map_cons, List.append_assoc]; rfl, u1.trans u3, s3.cons₂ y⟩
    | false =>
      dsimp only
      obtain ⟨zs, m', e3, u3, s3⟩ := cLd (enc := enc) (dat := dat) (tg := tg) e ys acc m1 v1 (fun z hz => h1 z (.tail _ hz)) (fun z hz => h2 z (.tail _ hz)) (fun z hz => h3 z (.tail _ hz))
      exact ⟨zs, m', e3, u1.trans u3, s3.cons y⟩
/-- a loop that draws, its turns counted -/
theorem fl_memR {b : EnvT → Mem → O} {tg : Tg} (I : Nat → EnvT → Mem → Prop) (J : Nat) : ∀ (xs : List SV) (j : Nat), j + xs.length ≤ J → (∀ x ∈ xs, ∀ j env m, j < J → I j env m → ∃ e' env' m', bindT tg x env = some e' ∧ b e' m = .nx env' m' ∧ I (j + 1) env' m') →
    ∀ env m, I j env m → ∃ env' m', forL tg b xs env m = .nx env' m' ∧ I (j + xs.length) env' m'
  | [], j, _, _, env, m, h => ⟨env, m, rfl, h⟩
  | x :: xs, j, hj, hs, env, m, h => by
    rw [List.length_cons] at hj
    obtain ⟨e', env', m', h1, h2, h3⟩ := hs x (.head _) j env m (by omega) h
    obtain ⟨env'', m'', h4, h5⟩ := fl_memR I J xs (j + 1) (by omega) (fun y hy => hs y (.tail _ hy)) env' m' h3
    refine ⟨env'', m'', ?_, by rw [List.length_cons, show j + (xs.length + 1) = j + 1 + xs.length by omega]; exact h5⟩
    rw [fL_cons, h1, fLK_s, h2, seq_nx, h4]
end
theorem rise_sublist : ∀ {a b : List Int}, a.Sublist b → riseI b = true → riseI a = true
  | _, _, .slnil, h => h
  | _, _, .cons x s, h => rise_sublist s (riseI_cons.mp h).2
  | _, _, .cons₂ x s, h => by
    have h' := riseI_cons.mp h
    exact riseI_cons.mpr ⟨fun y hy => h'.1 y (s.subset hy), rise_sublist s h'.2⟩
section
variable {N : Nat} {m : Mem} {k : Nat}
theorem c_law_some {ds : Ds} (h : 2 ≤ N) (hv : Vt m k) (h1 : ds ≠ []) (h2 : ds.length < 1000) : ∃ d m', C N 12 [.h k, .d (.list ds)] m = .ok (.d d) m' ∧ d ∈ ds ∧ Up m k m' := by
  have hl : 1 ≤ ds.length := by cases ds with | nil => exact absurd rfl h1 | cons => simp
  obtain ⟨f, m', e, f0, f1, u⟩ := c_law_under (N := N - 1) (many := (ds.length : Nat)) (by omega) hv (by omega) (by omega)
  have hf : f.toNat < ds.length := by omega
  refine ⟨ds[f.toNat], m', ?_, List.getElem_mem hf, u⟩
  have ea : at_ ds f = some ds[f.toNat] := by unfold at_; rw [if_pos f0, List.getElem?_eq_getElem hf]
  have ix : idxD (.list ds) (.int f) = some ds[f.toNat] := ea
  rw [C_unf t_law_some (by omega), f_law_some]
  simp_arith [e, ix, u.take]
theorem c_law_mixture {n : Nat} (h : 2 ≤ N) (hv : Vt m k) (h1 : 1 ≤ n) (h2 : n ≤ 1000) : ∃ l m', C N 24 [.h k, .d (.int (n : Nat))] m = .ok (.d (.tuple (l.map .int))) m' ∧ MixOk n l ∧ Up m k m' := by
  rw [C_unf t_law_mixture (by omega), f_law_mixture]
  simp_arith
  rw [show Int.toNat (n : Int) = n by omega, rng_map]
  obtain ⟨zs, m1, e1, u1, s1⟩ := cLd (k := k) (env := [some (.h k), some (.d (.int (n : Nat))), none, none]) (tg := .one 3) (enc := fun y : Nat => SV.d (.int (y : Int))) (dat := fun y : Nat => .int (y : Int))
    (tst := evT glob (C (N - 1)) (.cons (.cmp .eq (.call 11 (.cons (.var 0) (.cons (.cst (.int (3))) .nil))) (.cst (.int (0)))) .nil)) (el := evE glob (C (N - 1)) (.var 3))
    (fun y => [some (.h k), some (.d (.int (n : Nat))), none, some (.d (.int (y : Nat)))]) (List.range n) [] m hv (fun y _ => by simp_arith) (fun y _ m hv => by
      obtain ⟨f, m', e, f0, f1, u⟩ := c_law_under (N := N - 1) (many := 3) (by omega) hv (by omega) (by omega)
      exact ⟨_, m', by simp_arith [e]; rfl, u⟩) (fun y _ m _ => ⟨_, by simp_arith; rfl, rfl⟩)
  have hm : MixR n (zs.map fun y : Nat => (y : Int)) := ⟨rise_sublist (s1.map _) rise_range, fun p hp => by
    obtain ⟨y, hy, rfl⟩ := List.mem_map.mp hp
    have := List.mem_range.mp (s1.subset hy)
    omega⟩
  have v1 := u1.vt hv
  rw [e1]
  simp_arith [isEmpty_map]
  cases hz : zs with
  | nil =>
    obtain ⟨f, m', e, f0, f1, u⟩ := c_law_under (N := N - 1) (many := (n : Nat)) (by omega) v1 (by omega) (by omega)
    have u2 := u1.trans u
    refine ⟨[f], m', ?_, ⟨⟨rfl, fun p hp => by rw [List.mem_singleton] at hp; omega⟩, by simp⟩, u2⟩
    simp_arith [e, List.isEmpty_nil, u2.take]
  | cons z r =>
    subst hz
    refine ⟨(z :: r).map fun y : Nat => (y : Int), m1, ?_, ⟨hm, by simp⟩, u1⟩
    simp_arith [List.isEmpty_cons, u1.take]
    rw [List.map_map]
    rfl
theorem c_law_fact {n : Nat} (h : 3 ≤ N) (hv : Vt m k) (h1 : 1 ≤ n) (h2 : n ≤ 1000) : ∃ w m', C N 25 [.h k, .d (.int (n : Nat))] m = .ok (.d (eW w)) m' ∧ FcOk n w ∧ Up m k m' := by
  rw [C_unf t_law_fact (by omega), f_law_fact]
  obtain ⟨d, m1, e1, d1, u1⟩ := c_law_some (N := N - 1) (ds := [.str (.ofString "same"), .str (.ofString "same"), .str (.ofString "covers"), .str (.ofString "covers"), .str (.ofString "unlike")]) (by omega) hv (by simp) (by simp)
  have v1 := u1.vt hv
  obtain ⟨a, m2, e2, a1, u2⟩ := c_law_mixture (N := N - 1) (by omega) v1 h1 h2
  have v2 := u2.vt v1
  obtain ⟨b, m3, e3, b1, u3⟩ := c_law_mixture (N := N - 1) (by omega) v2 h1 h2
  have u := u1.trans (u2.trans u3)
  have hd : ∃ w : Wd, d = .str w.s ∧ w ≠ .bares := by
    simp only [List.mem_cons, List.not_mem_nil, or_false] at d1
    rcases d1 with rfl | rfl | rfl | rfl | rfl
    · exact ⟨.same, rfl, by simp⟩
    · exact ⟨.same, rfl, by simp⟩
    · exact ⟨.covers, rfl, by simp⟩
    · exact ⟨.covers, rfl, by simp⟩
    · exact ⟨.unlike, rfl, by simp⟩
  obtain ⟨w, rfl, hw⟩ := hd
  refine ⟨⟨w, a, b⟩, m3, ?_, ⟨hw, a1, b1⟩, u⟩
  simp_arith [e1, e2, e3, u.take]
  rfl
theorem c_law_book {most size : Nat} (h : 4 ≤ N) (hv : Vt m k) (h1 : 2 ≤ most) (h2 : most ≤ 6) (h3 : size ≤ 6) : ∃ n ws m', C N 26 [.h k, .d (.int (most : Nat)), .d (.int (size : Nat))] m = .ok (.d (eB n ws)) m' ∧ BkOk n ws ∧ n ≤ most ∧ ws.length ≤ size ∧ Up m k m' := by
  rw [C_unf t_law_book (by omega), f_law_book]
  obtain ⟨f, m1, e1, f0, f1, u1⟩ := c_law_under (N := N - 1) (many := (most : Nat) - 1) (by omega) hv (by omega) (by omega)
  have v1 := u1.vt hv
  obtain ⟨g, m2, e2, g0, g1, u2⟩ := c_law_under (N := N - 1) (many := (size : Nat) + 1) (by omega) v1 (by omega) (by omega)
  have v2 := u2.vt v1
  have u12 := u1.trans u2
  obtain ⟨n, hn⟩ : ∃ n : Nat, 2 + f = (n : Int) := ⟨(2 + f).toNat, by omega⟩
  obtain ⟨q, rfl⟩ : ∃ q : Nat, g = (q : Int) := ⟨g.toNat, by omega⟩
  have hn1 : 2 ≤ n := by omega
  have hn2 : n ≤ most := by omega
  have hq : q ≤ 6 := by omega
  obtain ⟨env', m', e3, I⟩ := fl_memR (tg := .one 5) (b := exB glob (C (N - 1)) (.cons (.asg 6 (.call 25 (.cons (.var 0) (.cons (.var 3) .nil)))) (.cons (.ifs (.ors (.cons (.call 23 (.cons (.bin .add (.var 4) (.tup (.cons (.var 6) .nil))) .nil)) (.cons (.cmp .eq (.call 11 (.cons (.var 0) (.cons (.cst (.int (9))) .nil))) (.cst (.int (0)))) .nil))) (.cons (.asg 4 (.bin .add (.var 4) (.tup (.cons (.var 6) .nil)))) .nil) .nil) .nil)))
    (fun j env m' => ∃ (ws : List W) (a b : Option SV), env = [some (.h k), some (.d (.int (most : Nat))), some (.d (.int (size : Nat))), some (.d (.int (n : Nat))), some (.d (.tuple (ws.map eW))), a, b] ∧ (∀ w ∈ ws, FcOk n w) ∧ ws.length ≤ j ∧ Up m k m') 6
    ((List.range q).map fun y : Nat => SV.d (.int (y : Int))) 0 (by rw [List.length_map, List.length_range]; omega) (fun x hx j env m3 hj6 hI => by
      obtain ⟨ws, a, b, rfl, hw, hj, u⟩ := hI
      obtain ⟨y, hy, rfl⟩ := List.mem_map.mp hx
      have v := u.vt hv
      obtain ⟨w, m4, e4, w1, u4⟩ := c_law_fact (N := N - 1) (n := n) (by omega) v (by omega) (by omega)
      have v4 := u4.vt v
      obtain ⟨c, m5, e5, c0, c1, u5⟩ := c_law_under (N := N - 1) (many := 9) (by omega) v4 (by omega) (by omega)
      have hw' : ∀ x ∈ ws ++ [w], FcOk n x := fun x hx => by
        rw [List.mem_append, List.mem_singleton] at hx
        rcases hx with hx | rfl
        · exact hw x hx
        · exact w1
      have ec := c_law_can (N := N - 1) (m := m4) (n := n) (ws := ws ++ [w]) (by omega) (by omega) (fun x hx => (hw' x hx).r)
      rw [List.map_append, List.map_cons, List.map_nil] at ec
      have take1 : ∃ env', O.nx [some (.h k), some (.d (.int (most : Nat))), some (.d (.int (size : Nat))), some (.d (.int (n : Nat))), some (.d (.tuple (ws.map eW ++ [eW w]))), some (.d (.int (y : Nat))), some (.d (eW w))] m4 = .nx env' m4 ∧ True := ⟨_, rfl, trivial⟩
      refine ⟨[some (.h k), some (.d (.int (most : Nat))), some (.d (.int (size : Nat))), some (.d (.int (n : Nat))), some (.d (.tuple (ws.map eW))), some (.d (.int (y : Nat))), b], ?_⟩
      have app : (ws ++ [w]).map eW = ws.map eW ++ [eW w] := by rw [List.map_append]; rfl
      cases hc : canF n (ws ++ [w]) with
      | true =>
        rw [hc] at ec
        refine ⟨[some (.h k), some (.d (.int (most : Nat))), some (.d (.int (size : Nat))), some (.d (.int (n : Nat))), some (.d (.tuple (ws.map eW ++ [eW w]))), some (.d (.int (y : Nat))), some (.d (eW w))], m4, by simp_arith, ?_, ws ++ [w], _, _, by rw [app], hw', by rw [List.length_append]; simp; omega, u.trans u4⟩
        simp_arith [e4, ec]
      | false =>
        rw [hc] at ec
        by_cases h0 : c = 0
        · refine ⟨[some (.h k), some (.d (.int (most : Nat))), some (.d (.int (size : Nat))), some (.d (.int (n : Nat))), some (.d (.tuple (ws.map eW ++ [eW w]))), some (.d (.int (y : Nat))), some (.d (eW w))], m5, by simp_arith, ?_, ws ++ [w], _, _, by rw [app], hw', by rw [List.length_append]; simp; omega, u.trans (u4.trans u5)⟩
          have d0 : decide (c = 0) = true := decide_eq_true h0
          simp_arith [e4, ec, e5, d0]
        · refine ⟨[some (.h k), some (.d (.int (most : Nat))), some (.d (.int (size : Nat))), some (.d (.int (n : Nat))), some (.d (.tuple (ws.map eW))), some (.d (.int (y : Nat))), some (.d (eW w))], m5, by simp_arith, ?_, ws, _, _, rfl, hw, by omega, u.trans (u4.trans u5)⟩
          have d0 : decide (c = 0) = false := decide_eq_false h0
          simp_arith [e4, ec, e5, d0]) [some (.h k), some (.d (.int (most : Nat))), some (.d (.int (size : Nat))), some (.d (.int (n : Nat))), some (.d (.tuple [])), none, none] m2 ⟨[], none, none, rfl, ⟨fun w hw => (by cases hw), Nat.le_refl _, u12⟩⟩
  obtain ⟨ws, a, b, rfl, hw, hj, u⟩ := I
  rw [List.length_map, List.length_range] at hj
  refine ⟨n, ws, m', ?_, ⟨hn1, by omega, by omega, hw⟩, hn2, by omega, u⟩
  simp_arith [e1, hn, e2, Int.toNat_natCast, rng_map, e3, u.take]
  rfl
end
end Tn

set_option maxRecDepth 100000
namespace Tn
open PySem
local macro_rules | `(tactic| simp_arith [$ls,*]) => `(tactic| simp (disch := first | assumption | omega | rfl | decide) only [$ls,*, runF_mk, LIM_eq, fLK_s, fL_nil, apE_o, x_sti, e_glo, gloK_s, e_cav, cvK_f, kdK_s, kdL_s, e_kdc, newK_o, len_rng, initE_eq, fin_nx, fin_rt, fin_ex, fin_ite, bind_ok, bind_ex, bind_no, bind_ite, of_ok, of_ex, of_no, of_ite, seq_nx, seq_rt, seq_ex, seq_no, seq_ite, bd_d, bd_own, bd_p, bd_ex, bd_ite, lift_some, lift_none, lift_ite, map_some, map_none, opd_d, opd_own, opd_p, toD_d, toD_own, md_nil, md_d, md_own, ma_nil, ma_d, ma_own, ma_h, ma_f, ma_s, mo_nil, mo_d, mo_own, mo_p, e_var, v_own, v_d, v_h, v_f, v_s, e_cst, e_fnr, e_pow, e_bin, e_neg, negI, e_cmp, e_chn, chK_b, e_isn, nn_none, nn_bool, nn_int, nn_str, nn_tup, nn_list, nn_own, nn_p, e_isb, bk_b, bk_n, e_ands, e_ors, e_not, bK_b, e_ite, noP_d, noP_own, noP_ex, noP_ite, e_tup, e_lst, tupK_s, lstK_s, e_idx, ixK_d, ixK_own, ixK_p, ixK_h, ixK_s, memK_s, e_slo, e_shi, e_rev, e_call, clK_s, e_blt, bl2_s, bl2_d, bl2_own, bl2_p, blO_s, e_isi, e_sse, e_lrg, e_trg, e_cm1, cmK_ok, e_cm2, cmK2_ok, e_ler, e_tnot, tnK_b, tnK_i, x_frz, bi_addB, bi_subB, bl_strb, lerK_ok, lerK_ex, lerO_s, lerK_ite, s_nil, s_cons, a_one, a_cons, o_one, o_cons, t_nil, t_cons, tK_b, i_dat, datK_t, datK_l, datK_o, datK_p, i_rng, i_rng2, rng2K_i, rngK_i, i_enm, enm2_t, enm2_l, enm2_o, enm2_p, i_fns, bT_one, bT_onef, bT_tup, x_asg, setS_d, setS_o, setS_f, x_asgs, setK_s, sA_nil, sA_d, sA_o, x_unp, x_newh, appK_s, x_app, x_exp, x_retv, x_ret, rtK_d, rtK_o, x_retN, x_ifs, ifK_b, x_whl, x_fr, x_rai, x_raiv, raK_i, b_nil, b_cons, b_dct, dcK_s, dcO_ok, frz_e, frz_v, frz_ev, frz_r, frz_r2, frz_f, fz_eq, fzK_d, fzK_o, wipe_nil, wipe_cons, c_lt, c_le, c_gt, c_ge, c_eqi, c_nei, c_eqs, c_nes, c_eqb, c_neb, c_eqn, c_nen, c_eqtn, c_netn, bi_add, bi_sub, bi_addt, bi_addl, bi_adds, bl_lent, bl_lenl, bl_tup, bl_int, bl_bool, bl_abs, bl_min, bl_max, ix_t, ix_l, at_0, at_1, at_2, at_3, at_4, isiD, dbl_eq, ite_okb, ite_okB, ite_tb, ite_bt, ite_ft, ite_fx, List.length_cons, List.length_nil, List.map_cons, List.map_nil, List.length_map, List.cons_append, List.nil_append, List.append_nil, Nat.reduceAdd, Nat.reduceSub, Nat.reduceLeDiff, Nat.reduceLT, Nat.zero_add, List.reduceReplicate, List.getElem?_cons_zero, List.getElem?_cons_succ, List.set_cons_zero, List.set_cons_succ, List.zip_cons_cons, List.zip_nil_left, List.zip_nil_right, List.foldl_cons, List.foldl_nil, List.all_cons, List.all_nil, List.take_length, and_true, true_and, if_true, if_false, ite_true, ite_false, if_pos, ↓reduceIte, Bool.false_eq_true, Bool.not_true, Bool.not_false, Bool.true_and, Bool.and_true, Bool.false_and, Bool.and_false, Bool.false_or, Bool.or_false, Bool.true_or, Bool.or_true, Bool.not_not, decide_true, decide_false, bne_self_eq_false, Bool.bne_false, Bool.bne_true, and_self])
local macro_rules | `(tactic| simp_arith) => `(tactic| simp (disch := first | assumption | omega | rfl | decide) only [runF_mk, LIM_eq, fLK_s, fL_nil, apE_o, x_sti, e_glo, gloK_s, e_cav, cvK_f, kdK_s, kdL_s, e_kdc, newK_o, len_rng, initE_eq, fin_nx, fin_rt, fin_ex, fin_ite, bind_ok, bind_ex, bind_no, bind_ite, of_ok, of_ex, of_no, of_ite, seq_nx, seq_rt, seq_ex, seq_no, seq_ite, bd_d, bd_own, bd_p, bd_ex, bd_ite, lift_some, lift_none, lift_ite, map_some, map_none, opd_d, opd_own, opd_p, toD_d, toD_own, md_nil, md_d, md_own, ma_nil, ma_d, ma_own, ma_h, ma_f, ma_s, mo_nil, mo_d, mo_own, mo_p, e_var, v_own, v_d, v_h, v_f, v_s, e_cst, e_fnr, e_pow, e_bin, e_neg, negI, e_cmp, e_chn, chK_b, e_isn, nn_none, nn_bool, nn_int, nn_str, nn_tup, nn_list, nn_own, nn_p, e_isb, bk_b, bk_n, e_ands, e_ors, e_not, bK_b, e_ite, noP_d, noP_own, noP_ex, noP_ite, e_tup, e_lst, tupK_s, lstK_s, e_idx, ixK_d, ixK_own, ixK_p, ixK_h, ixK_s, memK_s, e_slo, e_shi, e_rev, e_call, clK_s, e_blt, bl2_s, bl2_d, bl2_own, bl2_p, blO_s, e_isi, e_sse, e_lrg, e_trg, e_cm1, cmK_ok, e_cm2, cmK2_ok, e_ler, e_tnot, tnK_b, tnK_i, x_frz, bi_addB, bi_subB, bl_strb, lerK_ok, lerK_ex, lerO_s, lerK_ite, s_nil, s_cons, a_one, a_cons, o_one, o_cons, t_nil, t_cons, tK_b, i_dat, datK_t, datK_l, datK_o, datK_p, i_rng, i_rng2, rng2K_i, rngK_i, i_enm, enm2_t, enm2_l, enm2_o, enm2_p, i_fns, bT_one, bT_onef, bT_tup, x_asg, setS_d, setS_o, setS_f, x_asgs, setK_s, sA_nil, sA_d, sA_o, x_unp, x_newh, appK_s, x_app, x_exp, x_retv, x_ret, rtK_d, rtK_o, x_retN, x_ifs, ifK_b, x_whl, x_fr, x_rai, x_raiv, raK_i, b_nil, b_cons, b_dct, dcK_s, dcO_ok, frz_e, frz_v, frz_ev, frz_r, frz_r2, frz_f, fz_eq, fzK_d, fzK_o, wipe_nil, wipe_cons, c_lt, c_le, c_gt, c_ge, c_eqi, c_nei, c_eqs, c_nes, c_eqb, c_neb, c_eqn, c_nen, c_eqtn, c_netn, bi_add, bi_sub, bi_addt, bi_addl, bi_adds, bl_lent, bl_lenl, bl_tup, bl_int, bl_bool, bl_abs, bl_min, bl_max, ix_t, ix_l, at_0, at_1, at_2, at_3, at_4, isiD, dbl_eq, ite_okb, ite_okB, ite_tb, ite_bt, ite_ft, ite_fx, List.length_cons, List.length_nil, List.map_cons, List.map_nil, List.length_map, List.cons_append, List.nil_append, List.append_nil, Nat.reduceAdd, Nat.reduceSub, Nat.reduceLeDiff, Nat.reduceLT, Nat.zero_add, List.reduceReplicate, List.getElem?_cons_zero, List.getElem?_cons_succ, List.set_cons_zero, List.set_cons_succ, List.zip_cons_cons, List.zip_nil_left, List.zip_nil_right, List.foldl_cons, List.foldl_nil, List.all_cons, List.all_nil, List.take_length, and_true, true_and, if_true, if_false, ite_true, ite_false, if_pos, ↓reduceIte, Bool.false_eq_true, Bool.not_true, Bool.not_false, Bool.true_and, Bool.and_true, Bool.false_and, Bool.and_false, Bool.false_or, Bool.or_false, Bool.true_or, Bool.or_true, Bool.not_not, decide_true, decide_false, bne_self_eq_false, Bool.bne_false, Bool.bne_true, and_self])
/-! ### what paints show, by the laws -/
def foldS (hs : List (List Int)) : List Int → List Int → List Int
  | acc, [] => acc
  | acc, p :: ps => foldS hs (acc ++ (hs.getD p.toNat []).filter fun y => !decide (y ∈ acc)) ps
def shownF (hs : List (List Int)) (mx : List Int) : List Int := sortI (foldS hs [] mx)
/-- paints by their hues: rows of few hues -/
def RowsOk (n q : Nat) (hs : List (List Int)) : Prop := hs.length = n ∧ ∀ r ∈ hs, MixR q r
def AccOk (q : Nat) (acc : List Int) : Prop := acc.Nodup ∧ ∀ x ∈ acc, 0 ≤ x ∧ x < (q : Int)
theorem dedI_of_nodup : ∀ {l : List Int}, l.Nodup → dedI l = l
  | [], _ => rfl
  | x :: l, h => by
    rw [List.nodup_cons] at h
    rw [dedI, if_neg h.1, dedI_of_nodup h.2]
theorem sort_nodup {l : List Int} (h : l.Nodup) : riseI (sortI l) = true := by
  have := rise_sort_ded (l := l)
  rw [dedI_of_nodup h] at this
  exact this
theorem sort_len : ∀ {l : List Int}, (sortI l).length = l.length := by
  have ins : ∀ (x : Int) (l : List Int), (insI x l).length = l.length + 1 := by
    intro x l
    induction l with
    | nil => rfl
    | cons y l ih => rw [insI]; split <;> simp [ih]
  intro l
  induction l with
  | nil => rfl
  | cons x l ih => rw [sortI, ins, ih]; rfl
theorem AccOk.len {q : Nat} {acc : List Int} (h : AccOk q acc) : acc.length ≤ q := by
  have := rise_len (lo := 0) (hi := q) (sort_nodup h.1) fun p hp => h.2 p (mem_sortI.mp hp)
  rw [sort_len] at this
  omega
theorem rise_nodup : ∀ {l : List Int}, riseI l = true → l.Nodup
  | [], _ => List.nodup_nil
  | x :: l, h => by
    have h' := riseI_cons.mp h
    rw [List.nodup_cons]
    exact ⟨fun hx => by have := h'.1 x hx; omega, rise_nodup h'.2⟩
theorem row_ok {n q : Nat} {hs : List (List Int)} (h : RowsOk n q hs) {p : Int} (hp : 0 ≤ p ∧ p < (n : Int)) : MixR q (hs.getD p.toNat []) := by
  have : p.toNat < hs.length := by rw [h.1]; omega
  rw [List.getD_eq_getElem?_getD, List.getElem?_eq_getElem this]
  exact h.2 _ (List.getElem_mem this)
theorem acc_step {n q : Nat} {hs : List (List Int)} (h : RowsOk n q hs) {acc : List Int} (ha : AccOk q acc) {p : Int} (hp : 0 ≤ p ∧ p < (n : Int)) : AccOk q (acc ++ (hs.getD p.toNat []).filter fun y => !decide (y ∈ acc)) := by
  have hr := row_ok h hp
  refine ⟨?_, fun x hx => ?_⟩
  · rw [List.nodup_append]
    refine ⟨ha.1, (rise_nodup hr.1).filter _, fun a h1 b h2 e => ?_⟩
    have := (List.mem_filter.mp h2).2
    subst e
    simp [h1] at this
  · rw [List.mem_append] at hx
    rcases hx with hx | hx
    · exact ha.2 x hx
    · exact hr.2 x (List.mem_filter.mp hx).1
theorem fold_ok {n q : Nat} {hs : List (List Int)} (h : RowsOk n q hs) : ∀ {ps acc : List Int}, AccOk q acc → (∀ p ∈ ps, 0 ≤ p ∧ p < (n : Int)) → AccOk q (foldS hs acc ps)
  | [], _, ha, _ => ha
  | p :: ps, acc, ha, hp => by
    rw [foldS]
    exact fold_ok h (acc_step h ha (hp p (.head _))) fun z hz => hp z (.tail _ hz)
theorem mem_foldS {hs : List (List Int)} {x : Int} : ∀ {ps acc : List Int}, x ∈ foldS hs acc ps ↔ x ∈ acc ∨ ∃ p ∈ ps, x ∈ hs.getD p.toNat []
  | [], acc => by simp [foldS]
  | p :: ps, acc => by
    rw [foldS, mem_foldS (ps := ps)]
    by_cases h : x ∈ acc <;> simp [h]
theorem mem_shown {hs : List (List Int)} {mx : List Int} {x : Int} : x ∈ shownF hs mx ↔ ∃ p ∈ mx, x ∈ hs.getD p.toNat [] := by
  unfold shownF
  rw [mem_sortI, mem_foldS]
  simp
theorem shown_mix {n q : Nat} {hs : List (List Int)} (h : RowsOk n q hs) {mx : List Int} (hm : ∀ p ∈ mx, 0 ≤ p ∧ p < (n : Int)) : MixR q (shownF hs mx) := by
  have := fold_ok h (acc := []) ⟨List.nodup_nil, fun x hx => by cases hx⟩ hm
  exact ⟨sort_nodup this.1, fun p hp => this.2 p (mem_sortI.mp hp)⟩
def lsoF (hs : List (List Int)) (w : W) : Bool := if decide (w.wd = .covers) = true then decide (shownF hs (w.a ++ w.b) = shownF hs w.a) else (decide (shownF hs w.a = shownF hs w.b) == decide (w.wd = .same))
def lkeptF (hs : List (List Int)) (ws : List W) : Bool := ws.all (lsoF hs)
theorem c_ninLI {ks : List Int} {i : Int} : cmpD .notin (.int i) (.list (ks.map .int)) = some (!decide (i ∈ ks)) := by
  unfold cmpD inD; dsimp only; rw [if_pos ⟨by simp [PyData.depth], by rw [PyData.depth, depA_int]; omega⟩, any_eqv]; rfl
theorem at_M {hs : List (List Int)} {p : Int} (h : 0 ≤ p ∧ p < (hs.length : Int)) : idxD (.tuple (hs.map eM)) (.int p) = some (eM (hs.getD p.toNat [])) := by
  have hl : p.toNat < hs.length := by omega
  show at_ _ p = _
  unfold at_
  rw [if_pos h.1, List.getElem?_map, List.getD_eq_getElem?_getD, List.getElem?_eq_getElem hl]
  rfl
section
variable {N : Nat} {m : Mem} {n q : Nat} {hs : List (List Int)} {mx : List Int} {w : W} {ws : List W}
def shB : Ss := (.cons (.asg 2 (.bin .add (.var 2) (.cm1 (.var 4) (.one 4) (.dat (.idx (.var 0) (.var 3))) [4] (.cons (.cmp .notin (.var 4) (.var 2)) .nil)))) .nil)
theorem shown_loop {M : Option SV} (h : RowsOk n q hs) (hq : q ≤ 1000) : ∀ (ps acc : List Int) (a : Option SV), AccOk q acc → (∀ p ∈ ps, 0 ≤ p ∧ p < (n : Int)) → ∃ a',
    forL (.one 3) (exB glob (C N) shB) ((ps.map .int).map .d) [some (.d (.tuple (hs.map eM))), M, some (.own (acc.map .int)), a, none] m = .nx [some (.d (.tuple (hs.map eM))), M, some (.own ((foldS hs acc ps).map .int)), a', none] m
  | [], acc, a, _, _ => ⟨a, rfl⟩
  | p :: ps, acc, a, ha, hp => by
    have hp0 := hp p (.head _)
    have hr := row_ok h hp0
    have l1 := ha.len
    have l2 := hr.len
    obtain ⟨a', e⟩ := shown_loop (M := M) h hq ps _ (some (.d (.int p))) (acc_step h ha hp0) fun z hz => hp z (.tail _ hz)
    refine ⟨a', ?_⟩
    have ix := at_M (hs := hs) (p := p) (by rw [h.1]; exact hp0)
    have lf := List.length_filter_le (fun y => !decide (y ∈ acc)) (hs.getD p.toNat [])
    rw [List.map_cons, List.map_cons, fL_cons]
    unfold shB at e ⊢
    simp_arith [ix, eM]
    rw [cL1 (fun y => !decide (y ∈ acc)) .int (by simp) (fun y _ => by simp_arith [c_ninLI]) (fun y _ _ => by simp_arith)]
    simp_arith
    rw [← List.map_append]
    exact e
theorem c_law_shown (h : 1 ≤ N) (hr : RowsOk n q hs) (hq : q ≤ 60) (hm : ∀ p ∈ mx, 0 ≤ p ∧ p < (n : Int)) : C N 43 [.d (.tuple (hs.map eM)), .d (.tuple (mx.map .int))] m = .ok (.d (.tuple ((shownF hs mx).map .int))) m := by
  rw [C_unf t_law_shown h, f_law_shown]
  obtain ⟨a', e⟩ := shown_loop (N := N - 1) (m := m) (M := some (.d (.tuple (mx.map .int)))) hr (by omega) mx [] none ⟨List.nodup_nil, fun x hx => by cases hx⟩ hm
  have fl := (fold_ok hr (acc := []) ⟨List.nodup_nil, fun x hx => by cases hx⟩ hm).len
  have so : bltD .sorted [.list ((foldS hs [] mx).map .int)] = some (.own ((shownF hs mx).map .int)) := by
    unfold bltD
    dsimp only
    unfold sortedD
    rw [List.length_map, if_pos (by omega), intsOf_map]
    rfl
  unfold shB at e
  rw [List.map_nil] at e
  simp_arith [e, so]
  try rfl
theorem c_law_so (h : 2 ≤ N) (hr : RowsOk n q hs) (hq : q ≤ 60) (hn : n ≤ 1000) (hw : MixR n w.a ∧ MixR n w.b) : C N 44 [.d (.tuple (hs.map eM)), .d (eW w)] m = .ok (.d (.bool (lsoF hs w))) m := by
  rw [C_unf t_law_so (by omega), f_law_so, eW]
  have l1 := hw.1.len
  have l2 := hw.2.len
  have e1 := c_law_shown (N := N - 1) (m := m) (by omega) hr hq hw.1.2
  have e2 := c_law_shown (N := N - 1) (m := m) (by omega) hr hq hw.2.2
  have e3 := c_law_shown (N := N - 1) (m := m) (mx := w.a ++ w.b) (by omega) hr hq (fun p hp => by
    rw [List.mem_append] at hp
    exact hp.elim (hw.1.2 p) (hw.2.2 p))
  rw [List.map_append] at e3
  simp_arith [e1, e2, e3, wd_covers, wd_same, c_eqI]
  unfold lsoF
  cases decide (w.wd = .covers) <;> (simp_arith; try rfl)
theorem c_law_kept (h : 3 ≤ N) (hr : RowsOk n q hs) (hq : q ≤ 60) (hn : n ≤ 1000) (hw : WsR n ws) (hl : ws.length ≤ 1000) : C N 45 [.d (.tuple (hs.map eM)), .d (.tuple (ws.map eW))] m = .ok (.d (.bool (lkeptF hs ws))) m := by
  rw [C_unf t_law_kept (by omega), f_law_kept]
  simp_arith
  rw [cL1 (fun w => !lsoF hs w) eW (by simp) (fun y hy => by
    have := c_law_so (N := N - 1) (m := m) (w := y) (by omega) hr hq hn (hw y hy)
    simp_arith [this]) (fun y _ _ => by simp_arith)]
  simp_arith [isEmpty_map, isEmpty_filt]
  rfl
end
end Tn

set_option maxRecDepth 100000
namespace Tn
open PySem
/-! ### paints found: each wish is so -/
theorem mapM_mem {α β : Type} {f : α → Option β} : ∀ {l : List α} {r : List β}, l.mapM f = some r → (∀ x ∈ l, ∃ y ∈ r, f x = some y) ∧ ∀ y ∈ r, ∃ x ∈ l, f x = some y
  | [], r, h => by
    simp at h
    subst h
    exact ⟨fun x hx => (by cases hx), fun y hy => (by cases hy)⟩
  | x :: l, r, h => by
    rw [List.mapM_cons] at h
    cases h1 : f x with
    | none => rw [h1] at h; cases h
    | some y =>
      rw [h1] at h
      cases h2 : l.mapM f with
      | none => rw [h2] at h; cases h
      | some z =>
        rw [h2] at h
        cases h
        obtain ⟨a, b⟩ := mapM_mem h2
        refine ⟨fun v hv => ?_, fun v hv => ?_⟩
        · rcases List.mem_cons.mp hv with rfl | hv
          · exact ⟨y, .head _, h1⟩
          · obtain ⟨u, hu, e⟩ := a v hv
            exact ⟨u, .tail _ hu, e⟩
        · rcases List.mem_cons.mp hv with rfl | hv
          · exact ⟨x, .head _, h1⟩
          · obtain ⟨u, hu, e⟩ := b v hv
            exact ⟨u, .tail _ hu, e⟩
theorem chosen_good {n : Nat} {ws ks : List _} (h : chosenF n ws = some ks) : goodL ws ks := by
  unfold chosenF at h
  obtain ⟨a, b⟩ := mapM_mem h
  intro w hw
  unfold satL
  split
  · rename_i hc
    rw [List.all_eq_true]
    intro k hk
    obtain ⟨v, _, e⟩ := b k hk
    have := List.mem_of_find?_eq_some e
    have := (mem_calmKinds.mp this).2 w hw hc
    rw [this]; rfl
  · rename_i hc
    rw [List.any_eq_true]
    obtain ⟨k, hk, e⟩ := a w (List.mem_filter.mpr ⟨hw, by cases q : isCalm w <;> simp_all⟩)
    exact ⟨k, hk, List.find?_some (p := fun k => partF k w) e⟩
theorem row_huesOf {n : Nat} {ks : List (List Int)} {p : Int} (hp : 0 ≤ p ∧ p < (n : Int)) : (huesOf n ks).getD p.toNat [] = ((List.range ks.length).filter fun at_ => (ks.getD at_ []).contains p).map fun i : Nat => (i : Int) := by
  unfold huesOf
  have hl : p.toNat < n := by omega
  rw [List.getD_eq_getElem?_getD, List.getElem?_map, List.getElem?_range hl]
  show List.map _ (List.filter (fun at_ => (ks.getD at_ []).contains ((p.toNat : Nat) : Int)) _) = _
  rw [show ((p.toNat : Nat) : Int) = p by omega]
theorem rows_huesOf {n : Nat} {ks : List (List Int)} : RowsOk n ks.length (huesOf n ks) := by
  refine ⟨by unfold huesOf; simp, fun r hr => ?_⟩
  unfold huesOf at hr
  obtain ⟨p, _, rfl⟩ := List.mem_map.mp hr
  refine ⟨rise_sublist ((List.filter_sublist (l := List.range ks.length)).map _) rise_range, fun x hx => ?_⟩
  obtain ⟨i, hi, rfl⟩ := List.mem_map.mp hx
  have := List.mem_range.mp (List.mem_filter.mp hi).1
  omega
theorem mem_shown_of {n : Nat} {ks : List (List Int)} {mx : List Int} (hm : ∀ p ∈ mx, 0 ≤ p ∧ p < (n : Int)) {i : Nat} : (i : Int) ∈ shownF (huesOf n ks) mx ↔ i < ks.length ∧ meetsF (ks.getD i []) mx = true := by
  rw [mem_shown, meets_iff]
  constructor
  · rintro ⟨p, hp, h⟩
    rw [row_huesOf (hm p hp), List.mem_map] at h
    obtain ⟨j, hj, e⟩ := h
    have : j = i := by have e : (j : Int) = (i : Int) := e; omega
    subst this
    have hj := List.mem_filter.mp hj
    exact ⟨List.mem_range.mp hj.1, p, hp, by simpa using hj.2⟩
  · rintro ⟨hi, p, hp, h⟩
    refine ⟨p, hp, ?_⟩
    rw [row_huesOf (hm p hp), List.mem_map]
    exact ⟨i, List.mem_filter.mpr ⟨List.mem_range.mpr hi, by simpa using h⟩, rfl⟩
theorem shown_eq {n : Nat} {ks : List (List Int)} {a b : List Int} (ha : ∀ p ∈ a, 0 ≤ p ∧ p < (n : Int)) (hb : ∀ p ∈ b, 0 ≤ p ∧ p < (n : Int)) : shownF (huesOf n ks) a = shownF (huesOf n ks) b ↔ ∀ k ∈ ks, meetsF k a = meetsF k b := by
  have ma := shown_mix (rows_huesOf (n := n) (ks := ks)) ha
  have mb := shown_mix (rows_huesOf (n := n) (ks := ks)) hb
  constructor
  · intro h k hk
    obtain ⟨i, hi, rfl⟩ := List.mem_iff_getElem.mp hk
    have e : ks.getD i [] = ks[i] := by rw [List.getD_eq_getElem?_getD, List.getElem?_eq_getElem hi]; rfl
    have h1 := mem_shown_of (ks := ks) ha (i := i)
    have h2 := mem_shown_of (ks := ks) hb (i := i)
    rw [e] at h1 h2
    rw [h] at h1
    rw [Bool.eq_iff_iff]
    exact ⟨fun q => (h2.mp (h1.mpr ⟨hi, q⟩)).2, fun q => (h1.mp (h2.mpr ⟨hi, q⟩)).2⟩
  · intro h
    refine rise_ext ma.1 mb.1 fun y => ?_
    have key : ∀ {u v : List Int}, (∀ p ∈ u, 0 ≤ p ∧ p < (n : Int)) → (∀ p ∈ v, 0 ≤ p ∧ p < (n : Int)) → MixR ks.length (shownF (huesOf n ks) u) → (∀ k ∈ ks, meetsF k u = meetsF k v) → y ∈ shownF (huesOf n ks) u → y ∈ shownF (huesOf n ks) v := fun hu hv mu h hy => by
      have hb := mu.2 y hy
      obtain ⟨i, rfl⟩ : ∃ i : Nat, y = i := ⟨y.toNat, by omega⟩
      obtain ⟨h1, h2⟩ := (mem_shown_of hu).mp hy
      refine (mem_shown_of hv).mpr ⟨h1, ?_⟩
      have e : ks.getD i [] = ks[i] := by rw [List.getD_eq_getElem?_getD, List.getElem?_eq_getElem h1]; rfl
      rw [e] at h2 ⊢
      rw [← h _ (List.getElem_mem h1)]
      exact h2
    exact ⟨key ha hb ma h, key hb ha mb fun k hk => (h k hk).symm⟩
theorem meets_app {k a b : List Int} : meetsF k (a ++ b) = (meetsF k a || meetsF k b) := by
  unfold meetsF; rw [List.any_append]
theorem lso_sat {n : Nat} {ks : List (List Int)} {w : W} (hw : MixR n w.a ∧ MixR n w.b) (nb : w.wd ≠ .bares) : lsoF (huesOf n ks) w = satL ks w := by
  have e1 := shown_eq (ks := ks) hw.1.2 hw.2.2
  have e2 := shown_eq (ks := ks) (a := w.a ++ w.b) (b := w.a) (fun p hp => by
    rw [List.mem_append] at hp
    exact hp.elim (hw.1.2 p) (hw.2.2 p)) hw.1.2
  unfold lsoF satL
  cases hwd : w.wd with
  | bares => exact absurd hwd nb
  | covers =>
    have hc : isCalm w = true := by simp [isCalm, hwd]
    rw [if_pos (by decide), if_pos hc, Bool.eq_iff_iff, decide_eq_true_eq, e2, List.all_eq_true]
    have : ∀ k, (meetsF k (w.a ++ w.b) = meetsF k w.a) ↔ ((!partF k w) = true) := fun k => by
      rw [part_cov (.inl hwd), meets_app]
      cases meetsF k w.a <;> cases meetsF k w.b <;> simp
    exact ⟨fun h k hk => (this k).mp (h k hk), fun h k hk => (this k).mpr (h k hk)⟩
  | same =>
    have hc : isCalm w = true := by simp [isCalm, hwd]
    rw [if_neg (by decide), if_pos hc, Bool.eq_iff_iff, List.all_eq_true]
    have : ∀ k, (meetsF k w.a = meetsF k w.b) ↔ ((!partF k w) = true) := fun k => by
      rw [part_eq (.inl hwd)]
      cases meetsF k w.a <;> cases meetsF k w.b <;> simp
    simp only [decide_true, beq_true, decide_eq_true_eq]
    rw [e1]
    exact ⟨fun h k hk => (this k).mp (h k hk), fun h k hk => (this k).mpr (h k hk)⟩
  | unlike =>
    have hc : isCalm w = false := by simp [isCalm, hwd]
    rw [if_neg (by decide), if_neg (by rw [hc]; decide), Bool.eq_iff_iff, List.any_eq_true]
    have : ∀ k, (meetsF k w.a = meetsF k w.b) ↔ ¬ (partF k w = true) := fun k => by
      rw [part_eq (.inr hwd)]
      cases meetsF k w.a <;> cases meetsF k w.b <;> simp
    simp only [reduceCtorEq, decide_false, beq_false, Bool.not_eq_true', decide_eq_false_iff_not]
    rw [e1]
    constructor
    · intro h
      exact Classical.byContradiction fun q => h fun k hk => (this k).mpr fun z => q ⟨k, hk, z⟩
    · rintro ⟨k, hk, q⟩ h
      exact (this k).mp (h k hk) q
/-- what is found keeps the book -/
theorem hues_kept {n : Nat} {ws : List W} (hf : ∀ w ∈ ws, FcOk n w) {hs : List (List Int)} (h : huesF n ws = some hs) : RowsOk n ws.length hs ∧ lkeptF hs ws = true := by
  unfold huesF at h
  cases q : chosenF n ws with
  | none => rw [q] at h; cases h
  | some ks =>
    rw [q] at h
    cases h
    have r := rows_huesOf (n := n) (ks := ks)
    refine ⟨⟨r.1, fun x hx => ⟨(r.2 x hx).1, fun p hp => ?_⟩⟩, ?_⟩
    · have := (r.2 x hx).2 p hp
      have := chosen_len q
      omega
    · unfold lkeptF
      rw [List.all_eq_true]
      intro w hw
      rw [lso_sat (hf w hw).r (hf w hw).1]
      exact chosen_good q w hw
theorem hues_some {n : Nat} {ws : List W} : (huesF n ws).isSome = canF n ws := by
  unfold huesF canF
  cases chosenF n ws <;> rfl
end Tn

set_option maxRecDepth 100000
namespace Tn
open PySem
local macro_rules | `(tactic| simp_arith [$ls,*]) => `(tactic| simp (disch := first | assumption | omega | rfl | decide) only [$ls,*, runF_mk, LIM_eq, fLK_s, fL_nil, apE_o, x_sti, e_glo, gloK_s, e_cav, cvK_f, kdK_s, kdL_s, e_kdc, newK_o, len_rng, initE_eq, fin_nx, fin_rt, fin_ex, fin_ite, bind_ok, bind_ex, bind_no, bind_ite, of_ok, of_ex, of_no, of_ite, seq_nx, seq_rt, seq_ex, seq_no, seq_ite, bd_d, bd_own, bd_p, bd_ex, bd_ite, lift_some, lift_none, lift_ite, map_some, map_none, opd_d, opd_own, opd_p, toD_d, toD_own, md_nil, md_d, md_own, ma_nil, ma_d, ma_own, ma_h, ma_f, ma_s, mo_nil, mo_d, mo_own, mo_p, e_var, v_own, v_d, v_h, v_f, v_s, e_cst, e_fnr, e_pow, e_bin, e_neg, negI, e_cmp, e_chn, chK_b, e_isn, nn_none, nn_bool, nn_int, nn_str, nn_tup, nn_list, nn_own, nn_p, e_isb, bk_b, bk_n, e_ands, e_ors, e_not, bK_b, e_ite, noP_d, noP_own, noP_ex, noP_ite, e_tup, e_lst, tupK_s, lstK_s, e_idx, ixK_d, ixK_own, ixK_p, ixK_h, ixK_s, memK_s, e_slo, e_shi, e_rev, e_call, clK_s, e_blt, bl2_s, bl2_d, bl2_own, bl2_p, blO_s, e_isi, e_sse, e_lrg, e_trg, e_cm1, cmK_ok, e_cm2, cmK2_ok, e_ler, e_tnot, tnK_b, tnK_i, x_frz, bi_addB, bi_subB, bl_strb, lerK_ok, lerK_ex, lerO_s, lerK_ite, s_nil, s_cons, a_one, a_cons, o_one, o_cons, t_nil, t_cons, tK_b, i_dat, datK_t, datK_l, datK_o, datK_p, i_rng, i_rng2, rng2K_i, rngK_i, i_enm, enm2_t, enm2_l, enm2_o, enm2_p, i_fns, bT_one, bT_onef, bT_tup, x_asg, setS_d, setS_o, setS_f, x_asgs, setK_s, sA_nil, sA_d, sA_o, x_unp, x_newh, appK_s, x_app, x_exp, x_retv, x_ret, rtK_d, rtK_o, x_retN, x_ifs, ifK_b, x_whl, x_fr, x_rai, x_raiv, raK_i, b_nil, b_cons, b_dct, dcK_s, dcO_ok, frz_e, frz_v, frz_ev, frz_r, frz_r2, frz_f, fz_eq, fzK_d, fzK_o, wipe_nil, wipe_cons, c_lt, c_le, c_gt, c_ge, c_eqi, c_nei, c_eqs, c_nes, c_eqb, c_neb, c_eqn, c_nen, c_eqtn, c_netn, bi_add, bi_sub, bi_addt, bi_addl, bi_adds, bl_lent, bl_lenl, bl_tup, bl_int, bl_bool, bl_abs, bl_min, bl_max, ix_t, ix_l, at_0, at_1, at_2, at_3, at_4, isiD, dbl_eq, ite_okb, ite_okB, ite_tb, ite_bt, ite_ft, ite_fx, List.length_cons, List.length_nil, List.map_cons, List.map_nil, List.length_map, List.cons_append, List.nil_append, List.append_nil, Nat.reduceAdd, Nat.reduceSub, Nat.reduceLeDiff, Nat.reduceLT, Nat.zero_add, List.reduceReplicate, List.getElem?_cons_zero, List.getElem?_cons_succ, List.set_cons_zero, List.set_cons_succ, List.zip_cons_cons, List.zip_nil_left, List.zip_nil_right, List.foldl_cons, List.foldl_nil, List.all_cons, List.all_nil, List.take_length, and_true, true_and, if_true, if_false, ite_true, ite_false, if_pos, ↓reduceIte, Bool.false_eq_true, Bool.not_true, Bool.not_false, Bool.true_and, Bool.and_true, Bool.false_and, Bool.and_false, Bool.false_or, Bool.or_false, Bool.true_or, Bool.or_true, Bool.not_not, decide_true, decide_false, bne_self_eq_false, Bool.bne_false, Bool.bne_true, and_self])
local macro_rules | `(tactic| simp_arith) => `(tactic| simp (disch := first | assumption | omega | rfl | decide) only [runF_mk, LIM_eq, fLK_s, fL_nil, apE_o, x_sti, e_glo, gloK_s, e_cav, cvK_f, kdK_s, kdL_s, e_kdc, newK_o, len_rng, initE_eq, fin_nx, fin_rt, fin_ex, fin_ite, bind_ok, bind_ex, bind_no, bind_ite, of_ok, of_ex, of_no, of_ite, seq_nx, seq_rt, seq_ex, seq_no, seq_ite, bd_d, bd_own, bd_p, bd_ex, bd_ite, lift_some, lift_none, lift_ite, map_some, map_none, opd_d, opd_own, opd_p, toD_d, toD_own, md_nil, md_d, md_own, ma_nil, ma_d, ma_own, ma_h, ma_f, ma_s, mo_nil, mo_d, mo_own, mo_p, e_var, v_own, v_d, v_h, v_f, v_s, e_cst, e_fnr, e_pow, e_bin, e_neg, negI, e_cmp, e_chn, chK_b, e_isn, nn_none, nn_bool, nn_int, nn_str, nn_tup, nn_list, nn_own, nn_p, e_isb, bk_b, bk_n, e_ands, e_ors, e_not, bK_b, e_ite, noP_d, noP_own, noP_ex, noP_ite, e_tup, e_lst, tupK_s, lstK_s, e_idx, ixK_d, ixK_own, ixK_p, ixK_h, ixK_s, memK_s, e_slo, e_shi, e_rev, e_call, clK_s, e_blt, bl2_s, bl2_d, bl2_own, bl2_p, blO_s, e_isi, e_sse, e_lrg, e_trg, e_cm1, cmK_ok, e_cm2, cmK2_ok, e_ler, e_tnot, tnK_b, tnK_i, x_frz, bi_addB, bi_subB, bl_strb, lerK_ok, lerK_ex, lerO_s, lerK_ite, s_nil, s_cons, a_one, a_cons, o_one, o_cons, t_nil, t_cons, tK_b, i_dat, datK_t, datK_l, datK_o, datK_p, i_rng, i_rng2, rng2K_i, rngK_i, i_enm, enm2_t, enm2_l, enm2_o, enm2_p, i_fns, bT_one, bT_onef, bT_tup, x_asg, setS_d, setS_o, setS_f, x_asgs, setK_s, sA_nil, sA_d, sA_o, x_unp, x_newh, appK_s, x_app, x_exp, x_retv, x_ret, rtK_d, rtK_o, x_retN, x_ifs, ifK_b, x_whl, x_fr, x_rai, x_raiv, raK_i, b_nil, b_cons, b_dct, dcK_s, dcO_ok, frz_e, frz_v, frz_ev, frz_r, frz_r2, frz_f, fz_eq, fzK_d, fzK_o, wipe_nil, wipe_cons, c_lt, c_le, c_gt, c_ge, c_eqi, c_nei, c_eqs, c_nes, c_eqb, c_neb, c_eqn, c_nen, c_eqtn, c_netn, bi_add, bi_sub, bi_addt, bi_addl, bi_adds, bl_lent, bl_lenl, bl_tup, bl_int, bl_bool, bl_abs, bl_min, bl_max, ix_t, ix_l, at_0, at_1, at_2, at_3, at_4, isiD, dbl_eq, ite_okb, ite_okB, ite_tb, ite_bt, ite_ft, ite_fx, List.length_cons, List.length_nil, List.map_cons, List.map_nil, List.length_map, List.cons_append, List.nil_append, List.append_nil, Nat.reduceAdd, Nat.reduceSub, Nat.reduceLeDiff, Nat.reduceLT, Nat.zero_add, List.reduceReplicate, List.getElem?_cons_zero, List.getElem?_cons_succ, List.set_cons_zero, List.set_cons_succ, List.zip_cons_cons, List.zip_nil_left, List.zip_nil_right, List.foldl_cons, List.foldl_nil, List.all_cons, List.all_nil, List.take_length, and_true, true_and, if_true, if_false, ite_true, ite_false, if_pos, ↓reduceIte, Bool.false_eq_true, Bool.not_true, Bool.not_false, Bool.true_and, Bool.and_true, Bool.false_and, Bool.and_false, Bool.false_or, Bool.or_false, Bool.true_or, Bool.or_true, Bool.not_not, decide_true, decide_false, bne_self_eq_false, Bool.bne_false, Bool.bne_true, and_self])
/-! ### what paints show, by the program -/
def isHues (n : Int) (v : D) : Bool := match v with
  | .tuple ds => decide ((ds.length : Int) = n) && ds.all fun d => isRise d 63
  | _ => false
theorem shows_len {n q : Nat} {hs : List (List Int)} (hr : RowsOk n q hs) : ∀ {mx : List Int}, (∀ p ∈ mx, 0 ≤ p ∧ p < (n : Int)) → (mx.flatMap fun p => hs.getD p.toNat []).length ≤ mx.length * q
  | [], _ => by simp
  | p :: mx, hm => by
    have ih := shows_len hr (mx := mx) fun z hz => hm z (.tail _ hz)
    have := (row_ok hr (hm p (.head _))).len
    rw [List.flatMap_cons, List.length_append, List.length_cons, Nat.succ_mul]
    omega
theorem shows_eq {n q : Nat} {hs : List (List Int)} (hr : RowsOk n q hs) {mx : List Int} (hm : ∀ p ∈ mx, 0 ≤ p ∧ p < (n : Int)) : sortI (dedI (mx.flatMap fun p => hs.getD p.toNat [])) = shownF hs mx :=
  rise_ext rise_sort_ded (shown_mix hr hm).1 fun y => by rw [mem_sortI, mem_dedI, mem_shown, List.mem_flatMap]
section
variable {N : Nat} {m : Mem} {n q : Nat} {hs : List (List Int)} {mx : List Int} {w : W} {ws : List W}
end
end Tn

set_option maxRecDepth 100000
namespace Tn
open PySem
local macro_rules | `(tactic| simp_arith [$ls,*]) => `(tactic| simp (disch := first | assumption | omega | rfl | decide) only [$ls,*, runF_mk, LIM_eq, fLK_s, fL_nil, apE_o, x_sti, e_glo, gloK_s, e_cav, cvK_f, kdK_s, kdL_s, e_kdc, newK_o, len_rng, initE_eq, fin_nx, fin_rt, fin_ex, fin_ite, bind_ok, bind_ex, bind_no, bind_ite, of_ok, of_ex, of_no, of_ite, seq_nx, seq_rt, seq_ex, seq_no, seq_ite, bd_d, bd_own, bd_p, bd_ex, bd_ite, lift_some, lift_none, lift_ite, map_some, map_none, opd_d, opd_own, opd_p, toD_d, toD_own, md_nil, md_d, md_own, ma_nil, ma_d, ma_own, ma_h, ma_f, ma_s, mo_nil, mo_d, mo_own, mo_p, e_var, v_own, v_d, v_h, v_f, v_s, e_cst, e_fnr, e_pow, e_bin, e_neg, negI, e_cmp, e_chn, chK_b, e_isn, nn_none, nn_bool, nn_int, nn_str, nn_tup, nn_list, nn_own, nn_p, e_isb, bk_b, bk_n, e_ands, e_ors, e_not, bK_b, e_ite, noP_d, noP_own, noP_ex, noP_ite, e_tup, e_lst, tupK_s, lstK_s, e_idx, ixK_d, ixK_own, ixK_p, ixK_h, ixK_s, memK_s, e_slo, e_shi, e_rev, e_call, clK_s, e_blt, bl2_s, bl2_d, bl2_own, bl2_p, blO_s, e_isi, e_sse, e_lrg, e_trg, e_cm1, cmK_ok, e_cm2, cmK2_ok, e_ler, e_tnot, tnK_b, tnK_i, x_frz, bi_addB, bi_subB, bl_strb, lerK_ok, lerK_ex, lerO_s, lerK_ite, s_nil, s_cons, a_one, a_cons, o_one, o_cons, t_nil, t_cons, tK_b, i_dat, datK_t, datK_l, datK_o, datK_p, i_rng, i_rng2, rng2K_i, rngK_i, i_enm, enm2_t, enm2_l, enm2_o, enm2_p, i_fns, bT_one, bT_onef, bT_tup, x_asg, setS_d, setS_o, setS_f, x_asgs, setK_s, sA_nil, sA_d, sA_o, x_unp, x_newh, appK_s, x_app, x_exp, x_retv, x_ret, rtK_d, rtK_o, x_retN, x_ifs, ifK_b, x_whl, x_fr, x_rai, x_raiv, raK_i, b_nil, b_cons, b_dct, dcK_s, dcO_ok, frz_e, frz_v, frz_ev, frz_r, frz_r2, frz_f, fz_eq, fzK_d, fzK_o, wipe_nil, wipe_cons, c_lt, c_le, c_gt, c_ge, c_eqi, c_nei, c_eqs, c_nes, c_eqb, c_neb, c_eqn, c_nen, c_eqtn, c_netn, bi_add, bi_sub, bi_addt, bi_addl, bi_adds, bl_lent, bl_lenl, bl_tup, bl_int, bl_bool, bl_abs, bl_min, bl_max, ix_t, ix_l, at_0, at_1, at_2, at_3, at_4, isiD, dbl_eq, ite_okb, ite_okB, ite_tb, ite_bt, ite_ft, ite_fx, List.length_cons, List.length_nil, List.map_cons, List.map_nil, List.length_map, List.cons_append, List.nil_append, List.append_nil, Nat.reduceAdd, Nat.reduceSub, Nat.reduceLeDiff, Nat.reduceLT, Nat.zero_add, List.reduceReplicate, List.getElem?_cons_zero, List.getElem?_cons_succ, List.set_cons_zero, List.set_cons_succ, List.zip_cons_cons, List.zip_nil_left, List.zip_nil_right, List.foldl_cons, List.foldl_nil, List.all_cons, List.all_nil, List.take_length, and_true, true_and, if_true, if_false, ite_true, ite_false, if_pos, ↓reduceIte, Bool.false_eq_true, Bool.not_true, Bool.not_false, Bool.true_and, Bool.and_true, Bool.false_and, Bool.and_false, Bool.false_or, Bool.or_false, Bool.true_or, Bool.or_true, Bool.not_not, decide_true, decide_false, bne_self_eq_false, Bool.bne_false, Bool.bne_true, and_self])
local macro_rules | `(tactic| simp_arith) => `(tactic| simp (disch := first | assumption | omega | rfl | decide) only [runF_mk, LIM_eq, fLK_s, fL_nil, apE_o, x_sti, e_glo, gloK_s, e_cav, cvK_f, kdK_s, kdL_s, e_kdc, newK_o, len_rng, initE_eq, fin_nx, fin_rt, fin_ex, fin_ite, bind_ok, bind_ex, bind_no, bind_ite, of_ok, of_ex, of_no, of_ite, seq_nx, seq_rt, seq_ex, seq_no, seq_ite, bd_d, bd_own, bd_p, bd_ex, bd_ite, lift_some, lift_none, lift_ite, map_some, map_none, opd_d, opd_own, opd_p, toD_d, toD_own, md_nil, md_d, md_own, ma_nil, ma_d, ma_own, ma_h, ma_f, ma_s, mo_nil, mo_d, mo_own, mo_p, e_var, v_own, v_d, v_h, v_f, v_s, e_cst, e_fnr, e_pow, e_bin, e_neg, negI, e_cmp, e_chn, chK_b, e_isn, nn_none, nn_bool, nn_int, nn_str, nn_tup, nn_list, nn_own, nn_p, e_isb, bk_b, bk_n, e_ands, e_ors, e_not, bK_b, e_ite, noP_d, noP_own, noP_ex, noP_ite, e_tup, e_lst, tupK_s, lstK_s, e_idx, ixK_d, ixK_own, ixK_p, ixK_h, ixK_s, memK_s, e_slo, e_shi, e_rev, e_call, clK_s, e_blt, bl2_s, bl2_d, bl2_own, bl2_p, blO_s, e_isi, e_sse, e_lrg, e_trg, e_cm1, cmK_ok, e_cm2, cmK2_ok, e_ler, e_tnot, tnK_b, tnK_i, x_frz, bi_addB, bi_subB, bl_strb, lerK_ok, lerK_ex, lerO_s, lerK_ite, s_nil, s_cons, a_one, a_cons, o_one, o_cons, t_nil, t_cons, tK_b, i_dat, datK_t, datK_l, datK_o, datK_p, i_rng, i_rng2, rng2K_i, rngK_i, i_enm, enm2_t, enm2_l, enm2_o, enm2_p, i_fns, bT_one, bT_onef, bT_tup, x_asg, setS_d, setS_o, setS_f, x_asgs, setK_s, sA_nil, sA_d, sA_o, x_unp, x_newh, appK_s, x_app, x_exp, x_retv, x_ret, rtK_d, rtK_o, x_retN, x_ifs, ifK_b, x_whl, x_fr, x_rai, x_raiv, raK_i, b_nil, b_cons, b_dct, dcK_s, dcO_ok, frz_e, frz_v, frz_ev, frz_r, frz_r2, frz_f, fz_eq, fzK_d, fzK_o, wipe_nil, wipe_cons, c_lt, c_le, c_gt, c_ge, c_eqi, c_nei, c_eqs, c_nes, c_eqb, c_neb, c_eqn, c_nen, c_eqtn, c_netn, bi_add, bi_sub, bi_addt, bi_addl, bi_adds, bl_lent, bl_lenl, bl_tup, bl_int, bl_bool, bl_abs, bl_min, bl_max, ix_t, ix_l, at_0, at_1, at_2, at_3, at_4, isiD, dbl_eq, ite_okb, ite_okB, ite_tb, ite_bt, ite_ft, ite_fx, List.length_cons, List.length_nil, List.map_cons, List.map_nil, List.length_map, List.cons_append, List.nil_append, List.append_nil, Nat.reduceAdd, Nat.reduceSub, Nat.reduceLeDiff, Nat.reduceLT, Nat.zero_add, List.reduceReplicate, List.getElem?_cons_zero, List.getElem?_cons_succ, List.set_cons_zero, List.set_cons_succ, List.zip_cons_cons, List.zip_nil_left, List.zip_nil_right, List.foldl_cons, List.foldl_nil, List.all_cons, List.all_nil, List.take_length, and_true, true_and, if_true, if_false, ite_true, ite_false, if_pos, ↓reduceIte, Bool.false_eq_true, Bool.not_true, Bool.not_false, Bool.true_and, Bool.and_true, Bool.false_and, Bool.and_false, Bool.false_or, Bool.or_false, Bool.true_or, Bool.or_true, Bool.not_not, decide_true, decide_false, bne_self_eq_false, Bool.bne_false, Bool.bne_true, and_self])
section
variable {N : Nat} {m : Mem} {n q k : Nat}
theorem c_law_truly {a b : Bool} (h : 1 ≤ N) : C N 14 [.d (.bool a), .d (.bool b)] m = .ok (.d (.bool (a == b))) m := by
  rw [C_unf t_law_truly h, f_law_truly]
  simp_arith
def huB : Ss := (.cons (.app 3 (.blt .tuple (.cons (.cm1 (.var 5) (.one 5) (.rng (.var 2)) [5] (.cons (.cmp .eq (.call 11 (.cons (.var 0) (.cons (.cst (.int (2))) .nil))) (.cst (.int (0)))) .nil)) .nil))) .nil)
theorem hues_loop {A1 : Option SV} (h : 1 ≤ N) (hq : q ≤ 1000) : ∀ (xs : List Nat) (m : Mem) (hs0 : List (List Int)) (a4 : Option SV), Vt m k → hs0.length + xs.length ≤ 1000 → ∃ (hs' : List (List Int)) (a4' : Option SV) (m' : Mem),
    forL (.one 4) (exB glob (C N) huB) (xs.map fun y : Nat => SV.d (.int (y : Int))) [some (.h k), A1, some (.d (.int (q : Nat))), some (.own (hs0.map eM)), a4, none] m = .nx [some (.h k), A1, some (.d (.int (q : Nat))), some (.own ((hs0 ++ hs').map eM)), a4', none] m' ∧ Up m k m' ∧ hs'.length = xs.length ∧ ∀ r ∈ hs', MixR q r
  | [], m, hs0, a4, hv, _ => ⟨[], a4, m, by rw [List.append_nil]; rfl, Up.rfl' hv, rfl, fun r hr => by cases hr⟩
  | x :: xs, m, hs0, a4, hv, hl => by
    rw [List.length_cons] at hl
    obtain ⟨zs, m1, e1, u1, s1⟩ := cLd (k := k) (env := [some (.h k), A1, some (.d (.int (q : Nat))), some (.own (hs0.map eM)), some (.d (.int (x : Nat))), none]) (tg := .one 5) (enc := fun y : Nat => SV.d (.int (y : Int))) (dat := fun y : Nat => .int (y : Int))
      (tst := evT glob (C N) (.cons (.cmp .eq (.call 11 (.cons (.var 0) (.cons (.cst (.int (2))) .nil))) (.cst (.int (0)))) .nil)) (el := evE glob (C N) (.var 5))
      (fun y => [some (.h k), A1, some (.d (.int (q : Nat))), some (.own (hs0.map eM)), some (.d (.int (x : Nat))), some (.d (.int (y : Nat)))]) (List.range q) [] m hv (fun y _ => by simp_arith) (fun y _ m hv => by
        obtain ⟨f, m', e, f0, f1, u⟩ := c_law_under (N := N) (many := 2) (by omega) hv (by omega) (by omega)
        exact ⟨_, m', by simp_arith [e]; rfl, u⟩) (fun y _ m _ => ⟨_, by simp_arith; rfl, rfl⟩)
    have hz : (zs.map fun y : Nat => PyData.int (y : Int)) = (zs.map fun y : Nat => (y : Int)).map .int := by rw [List.map_map]; rfl
    have hm : MixR q (zs.map fun y : Nat => (y : Int)) := ⟨rise_sublist (s1.map _) rise_range, fun p hp => by
      obtain ⟨y, hy, rfl⟩ := List.mem_map.mp hp
      have := List.mem_range.mp (s1.subset hy)
      omega⟩
    obtain ⟨hs', a4', m2, e2, u2, l2, r2⟩ := hues_loop (A1 := A1) h hq xs m1 (hs0 ++ [zs.map fun y : Nat => (y : Int)]) (some (.d (.int (x : Nat)))) (u1.vt hv) (by rw [List.length_append]; simp; omega)
    refine ⟨(zs.map fun y : Nat => (y : Int)) :: hs', a4', m2, ?_, u1.trans u2, by rw [List.length_cons, List.length_cons, l2], fun r hr => ?_⟩
    · rw [List.map_cons, fL_cons]
      have lh : hs0.length < 1000000 := by omega
      have ap : hs0.map eM ++ [PyData.tuple ((zs.map fun y : Nat => (y : Int)).map .int)] = (hs0 ++ [zs.map fun y : Nat => (y : Int)]).map eM := by rw [List.map_append]; rfl
      unfold huB at e2 ⊢
      simp_arith [Int.toNat_natCast, rng_map, e1]
      rw [hz, ap, e2, List.append_assoc, if_pos (by rw [List.length_range]; omega)]
      rfl
    · rcases List.mem_cons.mp hr with rfl | hr
      · exact hm
      · exact r2 r hr
theorem c_law_hues (h : 2 ≤ N) (hv : Vt m k) (hn : n ≤ 100) : ∃ hs m', C N 27 [.h k, .d (.int (n : Nat))] m = .ok (.d (.tuple (hs.map eM))) m' ∧ RowsOk n 4 hs ∧ Up m k m' := by
  rw [C_unf t_law_hues (by omega), f_law_hues]
  obtain ⟨f, m1, e1, f0, f1, u1⟩ := c_law_under (N := N - 1) (many := 4) (by omega) hv (by omega) (by omega)
  obtain ⟨q, hq⟩ : ∃ q : Nat, 1 + f = (q : Int) := ⟨(1 + f).toNat, by omega⟩
  obtain ⟨hs, a4, m2, e2, u2, l2, r2⟩ := hues_loop (N := N - 1) (q := q) (A1 := some (.d (.int (n : Nat)))) (by omega) (by omega) (List.range n) m1 [] none (u1.vt hv) (by simp; omega)
  have u := u1.trans u2
  rw [List.length_range] at l2
  refine ⟨hs, m2, ?_, ⟨l2, fun r hr => ⟨(r2 r hr).1, fun p hp => ?_⟩⟩, u⟩
  · unfold huB at e2
    rw [List.map_nil, List.nil_append] at e2
    simp_arith [e1, hq, Int.toNat_natCast, rng_map, e2, u.take]
  · have := (r2 r hr).2 p hp
    omega
end
end Tn

set_option maxRecDepth 100000
namespace Tn
open PySem
local macro_rules | `(tactic| simp_arith [$ls,*]) => `(tactic| simp (disch := first | assumption | omega | rfl | decide) only [$ls,*, runF_mk, LIM_eq, fLK_s, fL_nil, apE_o, x_sti, e_glo, gloK_s, e_cav, cvK_f, kdK_s, kdL_s, e_kdc, newK_o, len_rng, initE_eq, fin_nx, fin_rt, fin_ex, fin_ite, bind_ok, bind_ex, bind_no, bind_ite, of_ok, of_ex, of_no, of_ite, seq_nx, seq_rt, seq_ex, seq_no, seq_ite, bd_d, bd_own, bd_p, bd_ex, bd_ite, lift_some, lift_none, lift_ite, map_some, map_none, opd_d, opd_own, opd_p, toD_d, toD_own, md_nil, md_d, md_own, ma_nil, ma_d, ma_own, ma_h, ma_f, ma_s, mo_nil, mo_d, mo_own, mo_p, e_var, v_own, v_d, v_h, v_f, v_s, e_cst, e_fnr, e_pow, e_bin, e_neg, negI, e_cmp, e_chn, chK_b, e_isn, nn_none, nn_bool, nn_int, nn_str, nn_tup, nn_list, nn_own, nn_p, e_isb, bk_b, bk_n, e_ands, e_ors, e_not, bK_b, e_ite, noP_d, noP_own, noP_ex, noP_ite, e_tup, e_lst, tupK_s, lstK_s, e_idx, ixK_d, ixK_own, ixK_p, ixK_h, ixK_s, memK_s, e_slo, e_shi, e_rev, e_call, clK_s, e_blt, bl2_s, bl2_d, bl2_own, bl2_p, blO_s, e_isi, e_sse, e_lrg, e_trg, e_cm1, cmK_ok, e_cm2, cmK2_ok, e_ler, e_tnot, tnK_b, tnK_i, x_frz, bi_addB, bi_subB, bl_strb, lerK_ok, lerK_ex, lerO_s, lerK_ite, s_nil, s_cons, a_one, a_cons, o_one, o_cons, t_nil, t_cons, tK_b, i_dat, datK_t, datK_l, datK_o, datK_p, i_rng, i_rng2, rng2K_i, rngK_i, i_enm, enm2_t, enm2_l, enm2_o, enm2_p, i_fns, bT_one, bT_onef, bT_tup, x_asg, setS_d, setS_o, setS_f, x_asgs, setK_s, sA_nil, sA_d, sA_o, x_unp, x_newh, appK_s, x_app, x_exp, x_retv, x_ret, rtK_d, rtK_o, x_retN, x_ifs, ifK_b, x_whl, x_fr, x_rai, x_raiv, raK_i, b_nil, b_cons, b_dct, dcK_s, dcO_ok, frz_e, frz_v, frz_ev, frz_r, frz_r2, frz_f, fz_eq, fzK_d, fzK_o, wipe_nil, wipe_cons, c_lt, c_le, c_gt, c_ge, c_eqi, c_nei, c_eqs, c_nes, c_eqb, c_neb, c_eqn, c_nen, c_eqtn, c_netn, bi_add, bi_sub, bi_addt, bi_addl, bi_adds, bl_lent, bl_lenl, bl_tup, bl_int, bl_bool, bl_abs, bl_min, bl_max, ix_t, ix_l, at_0, at_1, at_2, at_3, at_4, isiD, dbl_eq, ite_okb, ite_okB, ite_tb, ite_bt, ite_ft, ite_fx, List.length_cons, List.length_nil, List.map_cons, List.map_nil, List.length_map, List.cons_append, List.nil_append, List.append_nil, Nat.reduceAdd, Nat.reduceSub, Nat.reduceLeDiff, Nat.reduceLT, Nat.zero_add, List.reduceReplicate, List.getElem?_cons_zero, List.getElem?_cons_succ, List.set_cons_zero, List.set_cons_succ, List.zip_cons_cons, List.zip_nil_left, List.zip_nil_right, List.foldl_cons, List.foldl_nil, List.all_cons, List.all_nil, List.take_length, and_true, true_and, if_true, if_false, ite_true, ite_false, if_pos, ↓reduceIte, Bool.false_eq_true, Bool.not_true, Bool.not_false, Bool.true_and, Bool.and_true, Bool.false_and, Bool.and_false, Bool.false_or, Bool.or_false, Bool.true_or, Bool.or_true, Bool.not_not, decide_true, decide_false, bne_self_eq_false, Bool.bne_false, Bool.bne_true, and_self])
local macro_rules | `(tactic| simp_arith) => `(tactic| simp (disch := first | assumption | omega | rfl | decide) only [runF_mk, LIM_eq, fLK_s, fL_nil, apE_o, x_sti, e_glo, gloK_s, e_cav, cvK_f, kdK_s, kdL_s, e_kdc, newK_o, len_rng, initE_eq, fin_nx, fin_rt, fin_ex, fin_ite, bind_ok, bind_ex, bind_no, bind_ite, of_ok, of_ex, of_no, of_ite, seq_nx, seq_rt, seq_ex, seq_no, seq_ite, bd_d, bd_own, bd_p, bd_ex, bd_ite, lift_some, lift_none, lift_ite, map_some, map_none, opd_d, opd_own, opd_p, toD_d, toD_own, md_nil, md_d, md_own, ma_nil, ma_d, ma_own, ma_h, ma_f, ma_s, mo_nil, mo_d, mo_own, mo_p, e_var, v_own, v_d, v_h, v_f, v_s, e_cst, e_fnr, e_pow, e_bin, e_neg, negI, e_cmp, e_chn, chK_b, e_isn, nn_none, nn_bool, nn_int, nn_str, nn_tup, nn_list, nn_own, nn_p, e_isb, bk_b, bk_n, e_ands, e_ors, e_not, bK_b, e_ite, noP_d, noP_own, noP_ex, noP_ite, e_tup, e_lst, tupK_s, lstK_s, e_idx, ixK_d, ixK_own, ixK_p, ixK_h, ixK_s, memK_s, e_slo, e_shi, e_rev, e_call, clK_s, e_blt, bl2_s, bl2_d, bl2_own, bl2_p, blO_s, e_isi, e_sse, e_lrg, e_trg, e_cm1, cmK_ok, e_cm2, cmK2_ok, e_ler, e_tnot, tnK_b, tnK_i, x_frz, bi_addB, bi_subB, bl_strb, lerK_ok, lerK_ex, lerO_s, lerK_ite, s_nil, s_cons, a_one, a_cons, o_one, o_cons, t_nil, t_cons, tK_b, i_dat, datK_t, datK_l, datK_o, datK_p, i_rng, i_rng2, rng2K_i, rngK_i, i_enm, enm2_t, enm2_l, enm2_o, enm2_p, i_fns, bT_one, bT_onef, bT_tup, x_asg, setS_d, setS_o, setS_f, x_asgs, setK_s, sA_nil, sA_d, sA_o, x_unp, x_newh, appK_s, x_app, x_exp, x_retv, x_ret, rtK_d, rtK_o, x_retN, x_ifs, ifK_b, x_whl, x_fr, x_rai, x_raiv, raK_i, b_nil, b_cons, b_dct, dcK_s, dcO_ok, frz_e, frz_v, frz_ev, frz_r, frz_r2, frz_f, fz_eq, fzK_d, fzK_o, wipe_nil, wipe_cons, c_lt, c_le, c_gt, c_ge, c_eqi, c_nei, c_eqs, c_nes, c_eqb, c_neb, c_eqn, c_nen, c_eqtn, c_netn, bi_add, bi_sub, bi_addt, bi_addl, bi_adds, bl_lent, bl_lenl, bl_tup, bl_int, bl_bool, bl_abs, bl_min, bl_max, ix_t, ix_l, at_0, at_1, at_2, at_3, at_4, isiD, dbl_eq, ite_okb, ite_okB, ite_tb, ite_bt, ite_ft, ite_fx, List.length_cons, List.length_nil, List.map_cons, List.map_nil, List.length_map, List.cons_append, List.nil_append, List.append_nil, Nat.reduceAdd, Nat.reduceSub, Nat.reduceLeDiff, Nat.reduceLT, Nat.zero_add, List.reduceReplicate, List.getElem?_cons_zero, List.getElem?_cons_succ, List.set_cons_zero, List.set_cons_succ, List.zip_cons_cons, List.zip_nil_left, List.zip_nil_right, List.foldl_cons, List.foldl_nil, List.all_cons, List.all_nil, List.take_length, and_true, true_and, if_true, if_false, ite_true, ite_false, if_pos, ↓reduceIte, Bool.false_eq_true, Bool.not_true, Bool.not_false, Bool.true_and, Bool.and_true, Bool.false_and, Bool.and_false, Bool.false_or, Bool.or_false, Bool.true_or, Bool.or_true, Bool.not_not, decide_true, decide_false, bne_self_eq_false, Bool.bne_false, Bool.bne_true, and_self])
/-! ### paints by lots of kinds: any labels -/
section
variable {n : Nat} {hs : List (List Int)} {lot : List Int} {kd : Int → List Int}
/-- hues are labels; each label's kind tells the paints that have it -/
def LabF (n : Nat) (hs : List (List Int)) (lot : List Int) (kd : Int → List Int) : Prop := ∀ p : Int, 0 ≤ p ∧ p < (n : Int) → hs.getD p.toNat [] = lot.filter fun h => decide (p ∈ kd h)
theorem lab_mem (hl : LabF n hs lot kd) {mx : List Int} (hm : ∀ p ∈ mx, 0 ≤ p ∧ p < (n : Int)) {x : Int} : x ∈ shownF hs mx ↔ x ∈ lot ∧ meetsF (kd x) mx = true := by
  rw [mem_shown, meets_iff]
  constructor
  · rintro ⟨p, hp, h⟩
    rw [hl p (hm p hp), List.mem_filter] at h
    exact ⟨h.1, p, hp, by simpa using h.2⟩
  · rintro ⟨hx, p, hp, h⟩
    refine ⟨p, hp, ?_⟩
    rw [hl p (hm p hp), List.mem_filter]
    exact ⟨hx, by simpa using h⟩
theorem lab_eq {q : Nat} (hr : RowsOk n q hs) (hl : LabF n hs lot kd) {a b : List Int} (ha : ∀ p ∈ a, 0 ≤ p ∧ p < (n : Int)) (hb : ∀ p ∈ b, 0 ≤ p ∧ p < (n : Int)) : shownF hs a = shownF hs b ↔ ∀ h ∈ lot, meetsF (kd h) a = meetsF (kd h) b := by
  have ma := shown_mix hr ha
  have mb := shown_mix hr hb
  constructor
  · intro e h hh
    have h1 := lab_mem hl ha (x := h)
    have h2 := lab_mem hl hb (x := h)
    rw [e] at h1
    rw [Bool.eq_iff_iff]
    exact ⟨fun z => (h2.mp (h1.mpr ⟨hh, z⟩)).2, fun z => (h1.mp (h2.mpr ⟨hh, z⟩)).2⟩
  · intro e
    refine rise_ext ma.1 mb.1 fun y => ?_
    rw [lab_mem hl ha, lab_mem hl hb]
    exact ⟨fun z => ⟨z.1, by rw [← e y z.1]; exact z.2⟩, fun z => ⟨z.1, by rw [e y z.1]; exact z.2⟩⟩
theorem lab_sat {q : Nat} (hr : RowsOk n q hs) (hl : LabF n hs lot kd) {w : W} (hw : MixR n w.a ∧ MixR n w.b) (nb : w.wd ≠ .bares) : lsoF hs w = satL (lot.map kd) w := by
  have e1 := lab_eq hr hl hw.1.2 hw.2.2
  have e2 := lab_eq hr hl (a := w.a ++ w.b) (b := w.a) (fun p hp => by
    rw [List.mem_append] at hp
    exact hp.elim (hw.1.2 p) (hw.2.2 p)) hw.1.2
  unfold lsoF satL
  rw [List.all_map, List.any_map]
  cases hwd : w.wd with
  | bares => exact absurd hwd nb
  | covers =>
    have hc : isCalm w = true := by simp [isCalm, hwd]
    rw [if_pos (by decide), if_pos hc, Bool.eq_iff_iff, decide_eq_true_eq, e2, List.all_eq_true]
    have : ∀ k, (meetsF k (w.a ++ w.b) = meetsF k w.a) ↔ ((!partF k w) = true) := fun k => by
      rw [part_cov (.inl hwd), meets_app]
      cases meetsF k w.a <;> cases meetsF k w.b <;> simp
    exact ⟨fun h k hk => (this _).mp (h k hk), fun h k hk => (this _).mpr (h k hk)⟩
  | same =>
    have hc : isCalm w = true := by simp [isCalm, hwd]
    rw [if_neg (by decide), if_pos hc, Bool.eq_iff_iff, List.all_eq_true]
    have : ∀ k, (meetsF k w.a = meetsF k w.b) ↔ ((!partF k w) = true) := fun k => by
      rw [part_eq (.inl hwd)]
      cases meetsF k w.a <;> cases meetsF k w.b <;> simp
    simp only [decide_true, beq_true, decide_eq_true_eq]
    rw [e1]
    exact ⟨fun h k hk => (this _).mp (h k hk), fun h k hk => (this _).mpr (h k hk)⟩
  | unlike =>
    have hc : isCalm w = false := by simp [isCalm, hwd]
    rw [if_neg (by decide), if_neg (by rw [hc]; decide), Bool.eq_iff_iff, List.any_eq_true]
    have : ∀ k, (meetsF k w.a = meetsF k w.b) ↔ ¬ (partF k w = true) := fun k => by
      rw [part_eq (.inr hwd)]
      cases meetsF k w.a <;> cases meetsF k w.b <;> simp
    simp only [reduceCtorEq, decide_false, beq_false, Bool.not_eq_true', decide_eq_false_iff_not]
    rw [e1]
    constructor
    · intro h
      exact Classical.byContradiction fun q => h fun k hk => (this _).mpr fun z => q ⟨k, hk, z⟩
    · rintro ⟨k, hk, q⟩ h
      exact (this _).mp (h k hk) q
end
/-! ### all paints -/
def kdLF (n : Nat) (h : Int) : List Int := (allKinds n).getD h.toNat []
def rowsF (n : Nat) (lot : List Int) : List (List Int) := (List.range n).map fun p : Nat => lot.filter fun h => decide ((p : Int) ∈ kdLF n h)
def ltK (n : Nat) (lot : List Int) : List (List Int) := lot.map (kdLF n)
def lotsA (n : Nat) : List (List Int) := kindsL (2 ^ n - 1)
def goodB (ws : List W) (L : List (List Int)) : Bool := ws.all (satL L)
def goodA (n : Nat) (ws : List W) : List (List Int) := (lotsA n).filter fun lot => goodB ws (ltK n lot)
section
variable {n : Nat} {lot : List Int} {ws vs : List W} {w : W} {mx : List Int}
theorem goodB_iff {L : List (List Int)} : goodB ws L = true ↔ goodL ws L := by
  unfold goodB goodL; rw [List.all_eq_true]
theorem lot_mix (h : lot ∈ lotsA n) : MixR (2 ^ n - 1) lot := mem_kindsL.mp h
theorem rows_row {p : Int} (hp : 0 ≤ p ∧ p < (n : Int)) : (rowsF n lot).getD p.toNat [] = lot.filter fun h => decide (p ∈ kdLF n h) := by
  unfold rowsF
  have hl : p.toNat < n := by omega
  rw [List.getD_eq_getElem?_getD, List.getElem?_map, List.getElem?_range hl]
  show (lot.filter fun h => decide (((p.toNat : Nat) : Int) ∈ kdLF n h)) = _
  rw [show ((p.toNat : Nat) : Int) = p by omega]
theorem rows_lab : LabF n (rowsF n lot) lot (kdLF n) := fun _ hp => rows_row hp
theorem rows_rows (h : lot ∈ lotsA n) : RowsOk n (2 ^ n - 1) (rowsF n lot) := by
  have hm := lot_mix h
  refine ⟨by unfold rowsF; simp, fun r hr => ?_⟩
  unfold rowsF at hr
  obtain ⟨p, _, rfl⟩ := List.mem_map.mp hr
  exact ⟨rise_filter hm.1, fun x hx => hm.2 x (List.mem_filter.mp hx).1⟩
theorem rows_sat (h : lot ∈ lotsA n) (hw : FcOk n w) : lsoF (rowsF n lot) w = satL (ltK n lot) w := lab_sat (rows_rows h) rows_lab hw.r hw.1
theorem kd_ok {h : Int} (hh : 0 ≤ h ∧ h < ((2 ^ n - 1 : Nat) : Int)) : MixOk n (kdLF n h) := by
  unfold kdLF
  have hl : h.toNat < (allKinds n).length := by rw [allKinds_len]; omega
  rw [List.getD_eq_getElem?_getD, List.getElem?_eq_getElem hl]
  exact mem_allKinds.mp (List.getElem_mem hl)
theorem ltK_ok (h : lot ∈ lotsA n) : ∀ k ∈ ltK n lot, MixOk n k := fun k hk => by
  obtain ⟨x, hx, rfl⟩ := List.mem_map.mp hk
  exact kd_ok ((lot_mix h).2 x hx)
/-- each lot of kinds is told by some labels -/
theorem lot_of {L : List (List Int)} (hL : ∀ k ∈ L, MixOk n k) : ∃ lot ∈ lotsA n, ∀ k, k ∈ ltK n lot ↔ k ∈ L := by
  refine ⟨((List.range (2 ^ n - 1)).map fun i : Nat => (i : Int)).filter fun h => decide (kdLF n h ∈ L), mem_kindsL.mpr ⟨rise_filter rise_range, fun p hp => ?_⟩, fun k => ?_⟩
  · obtain ⟨i, hi, rfl⟩ := List.mem_map.mp (List.mem_filter.mp hp).1
    have := List.mem_range.mp hi
    omega
  · unfold ltK
    rw [List.mem_map]
    constructor
    · rintro ⟨x, hx, rfl⟩
      simpa using (List.mem_filter.mp hx).2
    · intro hk
      have ha := mem_allKinds.mpr (hL k hk)
      obtain ⟨i, hi, e⟩ := List.mem_iff_getElem.mp ha
      have e2 : kdLF n (i : Int) = k := by
        unfold kdLF
        rw [Int.toNat_natCast, List.getD_eq_getElem?_getD, List.getElem?_eq_getElem hi]
        exact e
      refine ⟨(i : Int), List.mem_filter.mpr ⟨List.mem_map.mpr ⟨i, List.mem_range.mpr (by rw [← allKinds_len]; exact hi), rfl⟩, by rw [e2]; simpa using hk⟩, e2⟩
theorem good_mono {L L' : List (List Int)} (h : ∀ k, k ∈ L ↔ k ∈ L') : goodL ws L ↔ goodL ws L' := by
  unfold goodL
  exact ⟨fun q w hw => by rw [← sat_mono h]; exact q w hw, fun q w hw => by rw [sat_mono h]; exact q w hw⟩
/-- for all lots of kinds: for all labels -/
theorem all_lots {P : List (List Int) → Prop} (hP : ∀ L L', (∀ k, k ∈ L ↔ k ∈ L') → (P L ↔ P L')) : (∀ L, (∀ k ∈ L, MixOk n k) → goodL ws L → P L) ↔ ∀ lot ∈ goodA n ws, P (ltK n lot) := by
  constructor
  · intro h lot hl
    obtain ⟨h1, h2⟩ := List.mem_filter.mp hl
    exact h _ (ltK_ok h1) (goodB_iff.mp h2)
  · intro h L hL hg
    obtain ⟨lot, h1, h2⟩ := lot_of hL
    rw [← hP _ _ h2]
    exact h lot (List.mem_filter.mpr ⟨h1, goodB_iff.mpr ((good_mono h2).mpr hg)⟩)
theorem can_lots : canF n ws = true ↔ goodA n ws ≠ [] := by
  rw [can_iff_good]
  constructor
  · rintro ⟨L, hL, hg⟩ e
    obtain ⟨lot, h1, h2⟩ := lot_of hL
    have : lot ∈ goodA n ws := List.mem_filter.mpr ⟨h1, goodB_iff.mpr ((good_mono h2).mpr hg)⟩
    rw [e] at this; cases this
  · intro h
    cases e : goodA n ws with
    | nil => exact absurd e h
    | cons lot r =>
      have hl : lot ∈ goodA n ws := by rw [e]; exact .head _
      obtain ⟨h1, h2⟩ := List.mem_filter.mp hl
      exact ⟨_, ltK_ok h1, goodB_iff.mp h2⟩
/-- what is told by truths -/
def dueF (ts : List Bool) : Option Bool := if (ts.isEmpty || (decide (true ∈ ts) && decide (false ∈ ts))) = true then none else ts.head?
theorem known_lots : dueF ((goodA n ws).map fun lot => satL (ltK n lot) w) = knownF n ws w := by
  have at' : knownF n ws w = some true ↔ goodA n ws ≠ [] ∧ ∀ lot ∈ goodA n ws, satL (ltK n lot) w = true := by
    rw [known_true, can_lots]
    exact and_congr_right fun _ => all_lots (P := fun L => satL L w = true) fun L L' h => by rw [sat_mono h]
  have af : knownF n ws w = some false ↔ goodA n ws ≠ [] ∧ ∀ lot ∈ goodA n ws, satL (ltK n lot) w = false := by
    rw [known_false, can_lots]
    exact and_congr_right fun _ => all_lots (P := fun L => satL L w = false) fun L L' h => by rw [sat_mono h]
  have ht : ∀ b : Bool, b ∈ ((goodA n ws).map fun lot => satL (ltK n lot) w) ↔ ∃ lot ∈ goodA n ws, satL (ltK n lot) w = b := fun b => by
    rw [List.mem_map]
  generalize hts : ((goodA n ws).map fun lot => satL (ltK n lot) w) = ts at ht
  have he : goodA n ws = [] ↔ ts = [] := by rw [← hts]; simp
  unfold dueF
  cases hk : knownF n ws w with
  | some b =>
    have hb : goodA n ws ≠ [] ∧ ∀ lot ∈ goodA n ws, satL (ltK n lot) w = b := by
      cases b
      · exact af.mp hk
      · exact at'.mp hk
    cases ts with
    | nil => exact absurd (he.mpr rfl) hb.1
    | cons t r =>
      have all : ∀ x ∈ t :: r, x = b := fun x hx => by
        obtain ⟨lot, h1, h2⟩ := (ht x).mp hx
        rw [← h2]; exact hb.2 lot h1
      have t0 := all t (.head _)
      have : (decide (true ∈ t :: r) && decide (false ∈ t :: r)) = false := by
        rw [Bool.and_eq_false_iff, decide_eq_false_iff_not, decide_eq_false_iff_not]
        cases b
        · left; intro z; have := all true z; cases this
        · right; intro z; have := all false z; cases this
      rw [this]
      simp [t0]
  | none =>
    rw [if_pos]
    rw [Bool.or_eq_true, Bool.and_eq_true, decide_eq_true_eq, decide_eq_true_eq]
    cases ts with
    | nil => exact .inl rfl
    | cons t r =>
      right
      have hne : goodA n ws ≠ [] := fun z => by have := he.mp z; cases this
      refine ⟨Classical.byContradiction fun z => ?_, Classical.byContradiction fun z => ?_⟩
      · have : knownF n ws w = some false := af.mpr ⟨hne, fun lot hl => by
          cases q : satL (ltK n lot) w with
          | false => rfl
          | true => exact absurd ((ht true).mpr ⟨lot, hl, q⟩) z⟩
        rw [this] at hk; cases hk
      · have : knownF n ws w = some true := at'.mpr ⟨hne, fun lot hl => by
          cases q : satL (ltK n lot) w with
          | true => rfl
          | false => exact absurd ((ht false).mpr ⟨lot, hl, q⟩) z⟩
        rw [this] at hk; cases hk
/-! greatest -/
theorem calm_kinds_lot : ∃ lot ∈ lotsA n, ∀ k, k ∈ ltK n lot ↔ k ∈ calmKinds n ws := lot_of fun k hk => (mem_calmKinds.mp hk).1
theorem greatest_lots (hf : WsR n ws) (hn : n ≤ 30) (nb : NoBare ws) (hm : MixOk n mx) (hc : canF n ws = true) {p : Int} (hp : 0 ≤ p ∧ p < (n : Int)) : p ∈ closF ws mx ↔ ∀ lot ∈ goodA n ws, satL (ltK n lot) ⟨.covers, mx, [p]⟩ = true := by
  have hcl := closF_is hf hn nb hm.1
  have hb : ∀ x ∈ [p], 0 ≤ x ∧ x < (n : Int) := fun x hx => by rw [List.mem_singleton] at hx; subst hx; exact hp
  have e1 := sub_cl hf hm.1 hb hcl
  have e0 : p ∈ closF ws mx ↔ Sub [p] (closF ws mx) := by
    constructor
    · intro h x hx; rw [List.mem_singleton] at hx; subst hx; exact h
    · intro h; exact h p (by simp)
  have sc : ∀ L : List (List Int), satL L ⟨.covers, mx, [p]⟩ = true ↔ ∀ k ∈ L, meetsF k [p] = true → meetsF k mx = true := fun L => by
    unfold satL
    rw [if_pos (by simp [isCalm]), List.all_eq_true]
    have : ∀ k, ((!partF k ⟨.covers, mx, [p]⟩) = true) ↔ (meetsF k [p] = true → meetsF k mx = true) := fun k => by
      rw [part_cov (.inl rfl)]
      cases meetsF k [p] <;> cases meetsF k mx <;> simp
    exact ⟨fun h k hk => (this k).mp (h k hk), fun h k hk => (this k).mpr (h k hk)⟩
  rw [e0, e1]
  constructor
  · intro h lot hl
    obtain ⟨h1, h2⟩ := List.mem_filter.mp hl
    rw [sc]
    exact fun k hk => h k (good_sub (ltK_ok h1) (goodB_iff.mp h2) k hk)
  · intro h
    obtain ⟨lot, h1, h2⟩ := calm_kinds_lot (n := n) (ws := ws)
    have hg : lot ∈ goodA n ws := List.mem_filter.mpr ⟨h1, goodB_iff.mpr ((good_mono h2).mpr (can_good.mp hc))⟩
    have := (sc _).mp (h lot hg)
    exact fun k hk => this k ((h2 k).mpr hk)
/-! how many -/
theorem nodup_sub_len {α : Type} [DecidableEq α] : ∀ {l r : List α}, l.Nodup → (∀ x ∈ l, x ∈ r) → l.length ≤ r.length
  | [], _, _, _ => Nat.zero_le _
  | x :: l, r, h, s => by
    rw [List.nodup_cons] at h
    have hx := s x (.head _)
    have := nodup_sub_len (l := l) (r := r.erase x) h.2 fun y hy => by
      have : y ≠ x := fun e => h.1 (e ▸ hy)
      exact (List.mem_erase_of_ne this).mpr (s y (.tail _ hy))
    rw [List.length_erase_of_mem hx] at this
    have hp := List.length_pos_of_mem hx
    rw [List.length_cons]
    omega
theorem dedT_nodup' : ∀ l : List (List Int), (dedT l).Nodup
  | [] => List.nodup_nil
  | y :: r => by
    unfold dedT
    split
    · exact dedT_nodup' r
    · rename_i h
      exact List.nodup_cons.mpr ⟨fun z => h (mem_dedT.mp z), dedT_nodup' r⟩
def dcount (l : List (List Int)) (f : List Int → List Int) : Nat := (sortT (dedT (l.map f))).length
theorem dcount_le {l : List (List Int)} {f g : List Int → List Int} (h : ∀ a ∈ l, ∀ b ∈ l, g a = g b → f a = f b) : dcount l f ≤ dcount l g := by
  unfold dcount
  rw [len_sortT, len_sortT]
  let φ : List Int → List Int := fun y => match l.find? fun a => decide (g a = y) with
    | some a => f a
    | none => []
  have e : ∀ x ∈ dedT (l.map f), x ∈ (dedT (l.map g)).map φ := fun x hx => by
    rw [mem_dedT] at hx
    obtain ⟨a, ha, rfl⟩ := List.mem_map.mp hx
    refine List.mem_map.mpr ⟨g a, mem_dedT.mpr (List.mem_map.mpr ⟨a, ha, rfl⟩), ?_⟩
    show (match l.find? fun b => decide (g b = g a) with | some b => f b | none => []) = f a
    cases q : l.find? fun b => decide (g b = g a) with
    | none =>
      have := List.find?_eq_none.mp q a ha
      simp at this
    | some b =>
      have h1 := List.find?_some q
      have h2 := List.mem_of_find?_eq_some q
      exact h b h2 a ha (of_decide_eq_true h1)
  have := nodup_sub_len (dedT_nodup' (l.map f)) e
  rw [List.length_map] at this
  exact this
theorem dcount_eq {l : List (List Int)} {f g : List Int → List Int} (h : ∀ a ∈ l, ∀ b ∈ l, g a = g b ↔ f a = f b) : dcount l f = dcount l g :=
  Nat.le_antisymm (dcount_le fun a ha b hb => (h a ha b hb).mp) (dcount_le fun a ha b hb => (h a ha b hb).mpr)
def ccF (n : Nat) (lot : List Int) : Nat := dcount (allKinds n) (shownF (rowsF n lot))
theorem count_le (hf : WsR n ws) (hn : n ≤ 30) (nb : NoBare ws) (hl : lot ∈ goodA n ws) : ccF n lot ≤ countF n ws := by
  obtain ⟨h1, h2⟩ := List.mem_filter.mp hl
  refine dcount_le fun a ha b hb e => ?_
  have ma := mem_allKinds.mp ha
  have mb := mem_allKinds.mp hb
  rw [lab_eq (rows_rows h1) rows_lab ma.1.2 mb.1.2]
  have e2 := (cl_eq_iff hf ma.1 mb.1 (closF_is hf hn nb ma.1) (closF_is hf hn nb mb.1)).mp e
  intro h hh
  exact e2 _ (good_sub (ltK_ok h1) (goodB_iff.mp h2) _ (List.mem_map.mpr ⟨h, hh, rfl⟩))
theorem count_is (hf : WsR n ws) (hn : n ≤ 30) (nb : NoBare ws) (hc : canF n ws = true) : ∃ lot ∈ goodA n ws, ccF n lot = countF n ws := by
  obtain ⟨lot, h1, h2⟩ := calm_kinds_lot (n := n) (ws := ws)
  refine ⟨lot, List.mem_filter.mpr ⟨h1, goodB_iff.mpr ((good_mono h2).mpr (can_good.mp hc))⟩, dcount_eq fun a ha b hb => ?_⟩
  have ma := mem_allKinds.mp ha
  have mb := mem_allKinds.mp hb
  rw [lab_eq (rows_rows h1) rows_lab ma.1.2 mb.1.2, cl_eq_iff hf ma.1 mb.1 (closF_is hf hn nb ma.1) (closF_is hf hn nb mb.1)]
  constructor
  · intro e h hh
    exact e _ ((h2 _).mp (List.mem_map.mpr ⟨h, hh, rfl⟩))
  · intro e k hk
    obtain ⟨h, hh, rfl⟩ := List.mem_map.mp ((h2 k).mpr hk)
    exact e h hh
/-! the same books -/
theorem beyond_none : ∀ {vs : List W}, (beyondF n ws vs).isNone = true ↔ ∀ v ∈ vs, canF n (ws ++ [v.neg]) = false
  | [] => by simp [beyondF]
  | v :: vs => by
    unfold beyondF
    have hs := hues_some (n := n) (ws := ws ++ [v.neg])
    cases q : huesF n (ws ++ [v.neg]) with
    | some x =>
      rw [q] at hs
      have hs : canF n (ws ++ [v.neg]) = true := hs.symm
      constructor
      · intro h; cases h
      · intro h; have := h v (.head _); rw [hs] at this; cases this
    | none =>
      rw [q] at hs
      have hs : canF n (ws ++ [v.neg]) = false := hs.symm
      show (beyondF n ws vs).isNone = true ↔ _
      rw [beyond_none (vs := vs)]
      constructor
      · intro h x hx
        rcases List.mem_cons.mp hx with rfl | hx
        · exact hs
        · exact h x hx
      · intro h x hx; exact h x (.tail _ hx)
theorem neg_can {v : W} : canF n (ws ++ [v.neg]) = false ↔ ∀ L, (∀ k ∈ L, MixOk n k) → goodL ws L → satL L v = true := by
  rw [← Bool.not_eq_true, can_iff_good]
  constructor
  · intro h L h1 h2
    cases q : satL L v with
    | true => rfl
    | false => exact absurd ⟨L, h1, good_add.mpr ⟨h2, by rw [sat_neg, q]; rfl⟩⟩ h
  · rintro h ⟨L, h1, h2⟩
    obtain ⟨h2, h3⟩ := good_add.mp h2
    rw [sat_neg, h L h1 h2] at h3
    cases h3
theorem beyond_lots : (beyondF n ws vs).isNone = true ↔ ∀ lot ∈ lotsA n, goodB ws (ltK n lot) = true → goodB vs (ltK n lot) = true := by
  rw [beyond_none]
  constructor
  · intro h lot hl hg
    rw [goodB_iff] at hg ⊢
    exact fun v hv => neg_can.mp (h v hv) _ (ltK_ok hl) hg
  · intro h v hv
    rw [neg_can]
    intro L hL hg
    obtain ⟨lot, h1, h2⟩ := lot_of hL
    have := h lot h1 (goodB_iff.mpr ((good_mono h2).mpr hg))
    rw [goodB_iff] at this
    rw [← sat_mono h2]
    exact this v hv
theorem filter_eq_iff {α : Type} {p q : α → Bool} : ∀ {l : List α}, l.filter p = l.filter q ↔ ∀ x ∈ l, p x = q x
  | [] => by simp
  | x :: l => by
    have ih := filter_eq_iff (p := p) (q := q) (l := l)
    constructor
    · intro h
      have key : ∀ y ∈ x :: l, p y = q y := fun y hy => by
        rw [Bool.eq_iff_iff]
        constructor
        · intro hp
          have : y ∈ (x :: l).filter p := List.mem_filter.mpr ⟨hy, hp⟩
          rw [h] at this
          exact (List.mem_filter.mp this).2
        · intro hq
          have : y ∈ (x :: l).filter q := List.mem_filter.mpr ⟨hy, hq⟩
          rw [← h] at this
          exact (List.mem_filter.mp this).2
      exact key
    · intro h; exact List.filter_congr h
theorem parted_lots : (partedF n ws vs).isNone = true ↔ goodA n ws = goodA n vs := by
  unfold goodA
  rw [filter_eq_iff]
  have e1 := beyond_lots (n := n) (ws := ws) (vs := vs)
  have e2 := beyond_lots (n := n) (ws := vs) (vs := ws)
  unfold partedF
  cases q : beyondF n ws vs with
  | some r =>
    rw [q] at e1
    constructor
    · intro h; cases h
    · intro h
      have := e1.mpr fun lot hl hg => by rw [← h lot hl]; exact hg
      cases this
  | none =>
    rw [q] at e1
    show (beyondF n vs ws).isNone = true ↔ _
    rw [e2]
    have a := e1.mp rfl
    constructor
    · intro h lot hl
      rw [Bool.eq_iff_iff]
      exact ⟨a lot hl, h lot hl⟩
    · intro h lot hl hg
      rw [h lot hl]; exact hg
end
end Tn

set_option maxRecDepth 100000
namespace Tn
open PySem
local macro_rules | `(tactic| simp_arith [$ls,*]) => `(tactic| simp (disch := first | assumption | omega | rfl | decide) only [$ls,*, runF_mk, LIM_eq, fLK_s, fL_nil, apE_o, x_sti, e_glo, gloK_s, e_cav, cvK_f, kdK_s, kdL_s, e_kdc, newK_o, len_rng, initE_eq, fin_nx, fin_rt, fin_ex, fin_ite, bind_ok, bind_ex, bind_no, bind_ite, of_ok, of_ex, of_no, of_ite, seq_nx, seq_rt, seq_ex, seq_no, seq_ite, bd_d, bd_own, bd_p, bd_ex, bd_ite, lift_some, lift_none, lift_ite, map_some, map_none, opd_d, opd_own, opd_p, toD_d, toD_own, md_nil, md_d, md_own, ma_nil, ma_d, ma_own, ma_h, ma_f, ma_s, mo_nil, mo_d, mo_own, mo_p, e_var, v_own, v_d, v_h, v_f, v_s, e_cst, e_fnr, e_pow, e_bin, e_neg, negI, e_cmp, e_chn, chK_b, e_isn, nn_none, nn_bool, nn_int, nn_str, nn_tup, nn_list, nn_own, nn_p, e_isb, bk_b, bk_n, e_ands, e_ors, e_not, bK_b, e_ite, noP_d, noP_own, noP_ex, noP_ite, e_tup, e_lst, tupK_s, lstK_s, e_idx, ixK_d, ixK_own, ixK_p, ixK_h, ixK_s, memK_s, e_slo, e_shi, e_rev, e_call, clK_s, e_blt, bl2_s, bl2_d, bl2_own, bl2_p, blO_s, e_isi, e_sse, e_lrg, e_trg, e_cm1, cmK_ok, e_cm2, cmK2_ok, e_ler, e_tnot, tnK_b, tnK_i, x_frz, bi_addB, bi_subB, bl_strb, lerK_ok, lerK_ex, lerO_s, lerK_ite, s_nil, s_cons, a_one, a_cons, o_one, o_cons, t_nil, t_cons, tK_b, i_dat, datK_t, datK_l, datK_o, datK_p, i_rng, i_rng2, rng2K_i, rngK_i, i_enm, enm2_t, enm2_l, enm2_o, enm2_p, i_fns, bT_one, bT_onef, bT_tup, x_asg, setS_d, setS_o, setS_f, x_asgs, setK_s, sA_nil, sA_d, sA_o, x_unp, x_newh, appK_s, x_app, x_exp, x_retv, x_ret, rtK_d, rtK_o, x_retN, x_ifs, ifK_b, x_whl, x_fr, x_rai, x_raiv, raK_i, b_nil, b_cons, b_dct, dcK_s, dcO_ok, frz_e, frz_v, frz_ev, frz_r, frz_r2, frz_f, fz_eq, fzK_d, fzK_o, wipe_nil, wipe_cons, c_lt, c_le, c_gt, c_ge, c_eqi, c_nei, c_eqs, c_nes, c_eqb, c_neb, c_eqn, c_nen, c_eqtn, c_netn, bi_add, bi_sub, bi_addt, bi_addl, bi_adds, bl_lent, bl_lenl, bl_tup, bl_int, bl_bool, bl_abs, bl_min, bl_max, ix_t, ix_l, at_0, at_1, at_2, at_3, at_4, isiD, dbl_eq, ite_okb, ite_okB, ite_tb, ite_bt, ite_ft, ite_fx, List.length_cons, List.length_nil, List.map_cons, List.map_nil, List.length_map, List.cons_append, List.nil_append, List.append_nil, Nat.reduceAdd, Nat.reduceSub, Nat.reduceLeDiff, Nat.reduceLT, Nat.zero_add, List.reduceReplicate, List.getElem?_cons_zero, List.getElem?_cons_succ, List.set_cons_zero, List.set_cons_succ, List.zip_cons_cons, List.zip_nil_left, List.zip_nil_right, List.foldl_cons, List.foldl_nil, List.all_cons, List.all_nil, List.take_length, and_true, true_and, if_true, if_false, ite_true, ite_false, if_pos, ↓reduceIte, Bool.false_eq_true, Bool.not_true, Bool.not_false, Bool.true_and, Bool.and_true, Bool.false_and, Bool.and_false, Bool.false_or, Bool.or_false, Bool.true_or, Bool.or_true, Bool.not_not, decide_true, decide_false, bne_self_eq_false, Bool.bne_false, Bool.bne_true, and_self])
local macro_rules | `(tactic| simp_arith) => `(tactic| simp (disch := first | assumption | omega | rfl | decide) only [runF_mk, LIM_eq, fLK_s, fL_nil, apE_o, x_sti, e_glo, gloK_s, e_cav, cvK_f, kdK_s, kdL_s, e_kdc, newK_o, len_rng, initE_eq, fin_nx, fin_rt, fin_ex, fin_ite, bind_ok, bind_ex, bind_no, bind_ite, of_ok, of_ex, of_no, of_ite, seq_nx, seq_rt, seq_ex, seq_no, seq_ite, bd_d, bd_own, bd_p, bd_ex, bd_ite, lift_some, lift_none, lift_ite, map_some, map_none, opd_d, opd_own, opd_p, toD_d, toD_own, md_nil, md_d, md_own, ma_nil, ma_d, ma_own, ma_h, ma_f, ma_s, mo_nil, mo_d, mo_own, mo_p, e_var, v_own, v_d, v_h, v_f, v_s, e_cst, e_fnr, e_pow, e_bin, e_neg, negI, e_cmp, e_chn, chK_b, e_isn, nn_none, nn_bool, nn_int, nn_str, nn_tup, nn_list, nn_own, nn_p, e_isb, bk_b, bk_n, e_ands, e_ors, e_not, bK_b, e_ite, noP_d, noP_own, noP_ex, noP_ite, e_tup, e_lst, tupK_s, lstK_s, e_idx, ixK_d, ixK_own, ixK_p, ixK_h, ixK_s, memK_s, e_slo, e_shi, e_rev, e_call, clK_s, e_blt, bl2_s, bl2_d, bl2_own, bl2_p, blO_s, e_isi, e_sse, e_lrg, e_trg, e_cm1, cmK_ok, e_cm2, cmK2_ok, e_ler, e_tnot, tnK_b, tnK_i, x_frz, bi_addB, bi_subB, bl_strb, lerK_ok, lerK_ex, lerO_s, lerK_ite, s_nil, s_cons, a_one, a_cons, o_one, o_cons, t_nil, t_cons, tK_b, i_dat, datK_t, datK_l, datK_o, datK_p, i_rng, i_rng2, rng2K_i, rngK_i, i_enm, enm2_t, enm2_l, enm2_o, enm2_p, i_fns, bT_one, bT_onef, bT_tup, x_asg, setS_d, setS_o, setS_f, x_asgs, setK_s, sA_nil, sA_d, sA_o, x_unp, x_newh, appK_s, x_app, x_exp, x_retv, x_ret, rtK_d, rtK_o, x_retN, x_ifs, ifK_b, x_whl, x_fr, x_rai, x_raiv, raK_i, b_nil, b_cons, b_dct, dcK_s, dcO_ok, frz_e, frz_v, frz_ev, frz_r, frz_r2, frz_f, fz_eq, fzK_d, fzK_o, wipe_nil, wipe_cons, c_lt, c_le, c_gt, c_ge, c_eqi, c_nei, c_eqs, c_nes, c_eqb, c_neb, c_eqn, c_nen, c_eqtn, c_netn, bi_add, bi_sub, bi_addt, bi_addl, bi_adds, bl_lent, bl_lenl, bl_tup, bl_int, bl_bool, bl_abs, bl_min, bl_max, ix_t, ix_l, at_0, at_1, at_2, at_3, at_4, isiD, dbl_eq, ite_okb, ite_okB, ite_tb, ite_bt, ite_ft, ite_fx, List.length_cons, List.length_nil, List.map_cons, List.map_nil, List.length_map, List.cons_append, List.nil_append, List.append_nil, Nat.reduceAdd, Nat.reduceSub, Nat.reduceLeDiff, Nat.reduceLT, Nat.zero_add, List.reduceReplicate, List.getElem?_cons_zero, List.getElem?_cons_succ, List.set_cons_zero, List.set_cons_succ, List.zip_cons_cons, List.zip_nil_left, List.zip_nil_right, List.foldl_cons, List.foldl_nil, List.all_cons, List.all_nil, List.take_length, and_true, true_and, if_true, if_false, ite_true, ite_false, if_pos, ↓reduceIte, Bool.false_eq_true, Bool.not_true, Bool.not_false, Bool.true_and, Bool.and_true, Bool.false_and, Bool.and_false, Bool.false_or, Bool.or_false, Bool.true_or, Bool.or_true, Bool.not_not, decide_true, decide_false, bne_self_eq_false, Bool.bne_false, Bool.bne_true, and_self])
/-! ### the law's own sureness -/
section
variable {N : Nat} {m : Mem} {n q k : Nat} {ws : List W} {w : W} {hs : List (List Int)}
theorem dk_word {wd : Wd} (h : wd ≠ .bares) : dkF [(.ofString "same", .ofString "unlike"), (.ofString "unlike", .ofString "same"), (.ofString "covers", .ofString "bares")] (.str wd.s) = some wd.neg.s := by
  cases wd with
  | bares => exact absurd rfl h
  | same => rfl
  | unlike => rfl
  | covers => rfl
theorem c_law_contrary (h : 1 ≤ N) (hw : w.wd ≠ .bares) : C N 59 [.d (eW w)] m = .ok (.d (eW w.neg)) m := by
  rw [C_unf t_law_contrary h, f_law_contrary]
  have e := dk_word hw
  unfold eW W.neg
  dsimp only
  simp_arith [e, lo1t]
  try rfl
theorem c_law_sure (h : 4 ≤ N) (hn : n ≤ 30) (hf : WsR n ws) (hw : FcOk n w) (hl : ws.length ≤ 900) : C N 60 [.d (.tuple (ws.map eW)), .d (eW w)] m = .ok (.d (oB (knownF n ws w))) m := by
  rw [C_unf t_law_sure (by omega), f_law_sure]
  have e1 := c_law_can (N := N - 1) (m := m) (n := n) (ws := ws) (by omega) hn hf
  have e2 := c_law_can (N := N - 1) (m := m) (n := n) (ws := ws ++ [w.neg]) (by omega) hn (hf.add2 hw.r)
  have e3 := c_law_can (N := N - 1) (m := m) (n := n) (ws := ws ++ [w]) (by omega) hn (hf.add hw.r)
  have e4 := c_law_contrary (N := N - 1) (m := m) (w := w) (by omega) hw.1
  unfold knownF
  cases h1 : canF n ws with
  | false => rw [h1] at e1; simp_arith [e1]; rfl
  | true =>
    rw [h1] at e1
    cases h2 : canF n (ws ++ [w.neg]) with
    | false => rw [h2] at e2; simp_arith [e1, e4, map_add, e2]; rfl
    | true =>
      rw [h2] at e2
      cases h3 : canF n (ws ++ [w]) with
      | false => rw [h3] at e3; simp_arith [e1, e4, map_add, e2, e3]; rfl
      | true => rw [h3] at e3; simp_arith [e1, e4, map_add, e2, e3]; rfl
/-! any hues -/
def kdH (n : Nat) (hs : List (List Int)) (h : Int) : List Int := ((List.range n).map fun i : Nat => (i : Int)).filter fun p => decide (h ∈ hs.getD p.toNat [])
def lotH (n q : Nat) (hs : List (List Int)) : List Int := ((List.range q).map fun i : Nat => (i : Int)).filter fun h => !(kdH n hs h).isEmpty
theorem mem_kdH {h p : Int} : p ∈ kdH n hs h ↔ (0 ≤ p ∧ p < (n : Int)) ∧ h ∈ hs.getD p.toNat [] := by
  unfold kdH
  rw [List.mem_filter, List.mem_map]
  constructor
  · rintro ⟨⟨i, hi, rfl⟩, hd⟩
    have := List.mem_range.mp hi
    exact ⟨by omega, of_decide_eq_true hd⟩
  · rintro ⟨hp, hm⟩
    exact ⟨⟨p.toNat, List.mem_range.mpr (by omega), by omega⟩, decide_eq_true hm⟩
theorem lab_any (hr : RowsOk n q hs) : LabF n hs (lotH n q hs) (kdH n hs) := fun p hp => by
  have hl : p.toNat < hs.length := by rw [hr.1]; omega
  have hm : hs.getD p.toNat [] ∈ hs := by
    rw [List.getD_eq_getElem?_getD, List.getElem?_eq_getElem hl]
    exact List.getElem_mem hl
  have ro := hr.2 _ hm
  refine rise_ext ro.1 (rise_filter (rise_filter rise_range)) fun y => ?_
  rw [List.mem_filter, decide_eq_true_eq, mem_kdH]
  constructor
  · intro hy
    have hb := ro.2 y hy
    refine ⟨List.mem_filter.mpr ⟨List.mem_map.mpr ⟨y.toNat, List.mem_range.mpr (by omega), by omega⟩, ?_⟩, hp, hy⟩
    have : p ∈ kdH n hs y := mem_kdH.mpr ⟨hp, hy⟩
    cases e : kdH n hs y with
    | nil => rw [e] at this; cases this
    | cons => rfl
  · rintro ⟨_, _, hy⟩
    exact hy
theorem lotH_ok : ∀ k ∈ (lotH n q hs).map (kdH n hs), MixOk n k := fun k hk => by
  obtain ⟨h, hh, rfl⟩ := List.mem_map.mp hk
  have h2 := (List.mem_filter.mp hh).2
  refine ⟨⟨rise_filter rise_range, fun p hp => (mem_kdH.mp hp).1⟩, fun e => ?_⟩
  rw [e] at h2
  cases h2
theorem hues_sure (hr : RowsOk n q hs) (hf : ∀ x ∈ ws, FcOk n x) (hw : FcOk n w) (hk : lkeptF hs ws = true) {b : Bool} (e : knownF n ws w = some b) : lsoF hs w = b := by
  have hg : goodL ws ((lotH n q hs).map (kdH n hs)) := fun x hx => by
    rw [← lab_sat hr (lab_any hr) (hf x hx).r (hf x hx).1]
    unfold lkeptF at hk
    exact List.all_eq_true.mp hk x hx
  rw [lab_sat hr (lab_any hr) hw.r hw.1]
  cases b with
  | true => exact (known_true.mp e).2 _ lotH_ok hg
  | false => exact (known_false.mp e).2 _ lotH_ok hg
theorem hues_break (hf : ∀ x ∈ ws, FcOk n x) (hw : FcOk n w) (h : huesF n (ws ++ [w.neg]) = some hs) : RowsOk n (ws.length + 1) hs ∧ lkeptF hs ws = true ∧ lsoF hs w = false := by
  unfold huesF at h
  cases e : chosenF n (ws ++ [w.neg]) with
  | none => rw [e] at h; cases h
  | some ks =>
    rw [e] at h
    cases h
    have r := rows_huesOf (n := n) (ks := ks)
    have cl := chosen_len e
    have cg := chosen_good e
    rw [List.length_append, List.length_singleton] at cl
    refine ⟨⟨r.1, fun x hx => ⟨(r.2 x hx).1, fun p hp => ?_⟩⟩, ?_, ?_⟩
    · have := (r.2 x hx).2 p hp
      omega
    · unfold lkeptF
      rw [List.all_eq_true]
      intro x hx
      rw [lso_sat (hf x hx).r (hf x hx).1]
      exact cg x (List.mem_append_left _ hx)
    · rw [lso_sat hw.r hw.1]
      have := cg w.neg (by simp)
      rw [sat_neg] at this
      cases q : satL ks w with
      | true => rw [q] at this; cases this
      | false => rfl
end
end Tn

set_option maxRecDepth 100000
namespace Tn
open PySem
local macro_rules | `(tactic| simp_arith [$ls,*]) => `(tactic| simp (disch := first | assumption | omega | rfl | decide) only [$ls,*, runF_mk, LIM_eq, fLK_s, fL_nil, apE_o, x_sti, e_glo, gloK_s, e_cav, cvK_f, kdK_s, kdL_s, e_kdc, newK_o, len_rng, initE_eq, fin_nx, fin_rt, fin_ex, fin_ite, bind_ok, bind_ex, bind_no, bind_ite, of_ok, of_ex, of_no, of_ite, seq_nx, seq_rt, seq_ex, seq_no, seq_ite, bd_d, bd_own, bd_p, bd_ex, bd_ite, lift_some, lift_none, lift_ite, map_some, map_none, opd_d, opd_own, opd_p, toD_d, toD_own, md_nil, md_d, md_own, ma_nil, ma_d, ma_own, ma_h, ma_f, ma_s, mo_nil, mo_d, mo_own, mo_p, e_var, v_own, v_d, v_h, v_f, v_s, e_cst, e_fnr, e_pow, e_bin, e_neg, negI, e_cmp, e_chn, chK_b, e_isn, nn_none, nn_bool, nn_int, nn_str, nn_tup, nn_list, nn_own, nn_p, e_isb, bk_b, bk_n, e_ands, e_ors, e_not, bK_b, e_ite, noP_d, noP_own, noP_ex, noP_ite, e_tup, e_lst, tupK_s, lstK_s, e_idx, ixK_d, ixK_own, ixK_p, ixK_h, ixK_s, memK_s, e_slo, e_shi, e_rev, e_call, clK_s, e_blt, bl2_s, bl2_d, bl2_own, bl2_p, blO_s, e_isi, e_sse, e_lrg, e_trg, e_cm1, cmK_ok, e_cm2, cmK2_ok, e_ler, e_tnot, tnK_b, tnK_i, x_frz, bi_addB, bi_subB, bl_strb, lerK_ok, lerK_ex, lerO_s, lerK_ite, s_nil, s_cons, a_one, a_cons, o_one, o_cons, t_nil, t_cons, tK_b, i_dat, datK_t, datK_l, datK_o, datK_p, i_rng, i_rng2, rng2K_i, rngK_i, i_enm, enm2_t, enm2_l, enm2_o, enm2_p, i_fns, bT_one, bT_onef, bT_tup, x_asg, setS_d, setS_o, setS_f, x_asgs, setK_s, sA_nil, sA_d, sA_o, x_unp, x_newh, appK_s, x_app, x_exp, x_retv, x_ret, rtK_d, rtK_o, x_retN, x_ifs, ifK_b, x_whl, x_fr, x_rai, x_raiv, raK_i, b_nil, b_cons, b_dct, dcK_s, dcO_ok, frz_e, frz_v, frz_ev, frz_r, frz_r2, frz_f, fz_eq, fzK_d, fzK_o, wipe_nil, wipe_cons, c_lt, c_le, c_gt, c_ge, c_eqi, c_nei, c_eqs, c_nes, c_eqb, c_neb, c_eqn, c_nen, c_eqtn, c_netn, bi_add, bi_sub, bi_addt, bi_addl, bi_adds, bl_lent, bl_lenl, bl_tup, bl_int, bl_bool, bl_abs, bl_min, bl_max, ix_t, ix_l, at_0, at_1, at_2, at_3, at_4, isiD, dbl_eq, ite_okb, ite_okB, ite_tb, ite_bt, ite_ft, ite_fx, List.length_cons, List.length_nil, List.map_cons, List.map_nil, List.length_map, List.cons_append, List.nil_append, List.append_nil, Nat.reduceAdd, Nat.reduceSub, Nat.reduceLeDiff, Nat.reduceLT, Nat.zero_add, List.reduceReplicate, List.getElem?_cons_zero, List.getElem?_cons_succ, List.set_cons_zero, List.set_cons_succ, List.zip_cons_cons, List.zip_nil_left, List.zip_nil_right, List.foldl_cons, List.foldl_nil, List.all_cons, List.all_nil, List.take_length, and_true, true_and, if_true, if_false, ite_true, ite_false, if_pos, ↓reduceIte, Bool.false_eq_true, Bool.not_true, Bool.not_false, Bool.true_and, Bool.and_true, Bool.false_and, Bool.and_false, Bool.false_or, Bool.or_false, Bool.true_or, Bool.or_true, Bool.not_not, decide_true, decide_false, bne_self_eq_false, Bool.bne_false, Bool.bne_true, and_self])
local macro_rules | `(tactic| simp_arith) => `(tactic| simp (disch := first | assumption | omega | rfl | decide) only [runF_mk, LIM_eq, fLK_s, fL_nil, apE_o, x_sti, e_glo, gloK_s, e_cav, cvK_f, kdK_s, kdL_s, e_kdc, newK_o, len_rng, initE_eq, fin_nx, fin_rt, fin_ex, fin_ite, bind_ok, bind_ex, bind_no, bind_ite, of_ok, of_ex, of_no, of_ite, seq_nx, seq_rt, seq_ex, seq_no, seq_ite, bd_d, bd_own, bd_p, bd_ex, bd_ite, lift_some, lift_none, lift_ite, map_some, map_none, opd_d, opd_own, opd_p, toD_d, toD_own, md_nil, md_d, md_own, ma_nil, ma_d, ma_own, ma_h, ma_f, ma_s, mo_nil, mo_d, mo_own, mo_p, e_var, v_own, v_d, v_h, v_f, v_s, e_cst, e_fnr, e_pow, e_bin, e_neg, negI, e_cmp, e_chn, chK_b, e_isn, nn_none, nn_bool, nn_int, nn_str, nn_tup, nn_list, nn_own, nn_p, e_isb, bk_b, bk_n, e_ands, e_ors, e_not, bK_b, e_ite, noP_d, noP_own, noP_ex, noP_ite, e_tup, e_lst, tupK_s, lstK_s, e_idx, ixK_d, ixK_own, ixK_p, ixK_h, ixK_s, memK_s, e_slo, e_shi, e_rev, e_call, clK_s, e_blt, bl2_s, bl2_d, bl2_own, bl2_p, blO_s, e_isi, e_sse, e_lrg, e_trg, e_cm1, cmK_ok, e_cm2, cmK2_ok, e_ler, e_tnot, tnK_b, tnK_i, x_frz, bi_addB, bi_subB, bl_strb, lerK_ok, lerK_ex, lerO_s, lerK_ite, s_nil, s_cons, a_one, a_cons, o_one, o_cons, t_nil, t_cons, tK_b, i_dat, datK_t, datK_l, datK_o, datK_p, i_rng, i_rng2, rng2K_i, rngK_i, i_enm, enm2_t, enm2_l, enm2_o, enm2_p, i_fns, bT_one, bT_onef, bT_tup, x_asg, setS_d, setS_o, setS_f, x_asgs, setK_s, sA_nil, sA_d, sA_o, x_unp, x_newh, appK_s, x_app, x_exp, x_retv, x_ret, rtK_d, rtK_o, x_retN, x_ifs, ifK_b, x_whl, x_fr, x_rai, x_raiv, raK_i, b_nil, b_cons, b_dct, dcK_s, dcO_ok, frz_e, frz_v, frz_ev, frz_r, frz_r2, frz_f, fz_eq, fzK_d, fzK_o, wipe_nil, wipe_cons, c_lt, c_le, c_gt, c_ge, c_eqi, c_nei, c_eqs, c_nes, c_eqb, c_neb, c_eqn, c_nen, c_eqtn, c_netn, bi_add, bi_sub, bi_addt, bi_addl, bi_adds, bl_lent, bl_lenl, bl_tup, bl_int, bl_bool, bl_abs, bl_min, bl_max, ix_t, ix_l, at_0, at_1, at_2, at_3, at_4, isiD, dbl_eq, ite_okb, ite_okB, ite_tb, ite_bt, ite_ft, ite_fx, List.length_cons, List.length_nil, List.map_cons, List.map_nil, List.length_map, List.cons_append, List.nil_append, List.append_nil, Nat.reduceAdd, Nat.reduceSub, Nat.reduceLeDiff, Nat.reduceLT, Nat.zero_add, List.reduceReplicate, List.getElem?_cons_zero, List.getElem?_cons_succ, List.set_cons_zero, List.set_cons_succ, List.zip_cons_cons, List.zip_nil_left, List.zip_nil_right, List.foldl_cons, List.foldl_nil, List.all_cons, List.all_nil, List.take_length, and_true, true_and, if_true, if_false, ite_true, ite_false, if_pos, ↓reduceIte, Bool.false_eq_true, Bool.not_true, Bool.not_false, Bool.true_and, Bool.and_true, Bool.false_and, Bool.and_false, Bool.false_or, Bool.or_false, Bool.true_or, Bool.or_true, Bool.not_not, decide_true, decide_false, bne_self_eq_false, Bool.bne_false, Bool.bne_true, and_self])
theorem c_eqLI3z {a b : List Int} : cmpD .eq (.list (a.map .int)) (.list (b.map .int)) = some (decide (a = b)) := by
  unfold cmpD eqOk; dsimp only; rw [if_pos (by simp [PyData.depth, depA_int])]; simp only [PyData.eqv, eqvA_int]
theorem sset_tupz {l : List Int} (h : l.length < 64) : ssetD (.tuple (l.map .int)) = some ((sortI (dedI l)).map .int) := by
  unfold ssetD; dsimp only; rw [List.length_map, if_pos h, intsOf_map]; rfl
theorem sort_ded_risez {l : List Int} (h : riseI l = true) : sortI (dedI l) = l := rise_ext rise_sort_ded h fun y => by rw [mem_sortI, mem_dedI]
section
variable {N : Nat} {m : Mem} {n q : Nat} {hs : List (List Int)} {ws : List W}
theorem c_law_is_wholez {i a b : Int} (h : 1 ≤ N) : C N 13 [.d (.int i), .d (.int a), .d (.int b)] m = .ok (.d (.bool (decide (a ≤ i) && decide (i ≤ b)))) m := by
  rw [C_unf t_law_is_whole h, f_law_is_whole]
  simp_arith
theorem c_law_is_risingz {l : List Int} (h : 2 ≤ N) (hq : q ≤ 60) (hl : MixR q l) : C N 15 [.d (.tuple (l.map .int)), .d (.int 63)] m = .ok (.d (.bool true)) m := by
  have len := hl.len
  rw [C_unf t_law_is_rising (by omega), f_law_is_rising]
  simp_arith
  rw [cL1 (fun y => !(decide (0 ≤ y) && decide (y ≤ 63))) .int (by simp) (fun y _ => by simp_arith [c_law_is_wholez]) (fun y _ _ => by simp_arith)]
  have e : l.filter (fun y => !(decide (0 ≤ y) && decide (y ≤ 63))) = [] := by
    rw [List.filter_eq_nil_iff]
    intro y hy
    have := hl.2 y hy
    simp
    omega
  have so : ssetD (.tuple (l.map .int)) = some (l.map .int) := by rw [sset_tupz (by omega), sort_ded_risez hl.1]
  have eq := c_eqLI3z (a := l) (b := l)
  have bl : bltD .list [.tuple (l.map .int)] = some (.own (l.map .int)) := rfl
  rw [e]
  simp_arith [so, eq, bl, List.isEmpty_nil]
theorem c_law_are_huesz (h : 3 ≤ N) (hq : q ≤ 60) (hr : RowsOk n q hs) (hn : n ≤ 1000) : C N 19 [.d (.int (n : Nat)), .d (.tuple (hs.map eM))] m = .ok (.d (.bool true)) m := by
  rw [C_unf t_law_are_hues (by omega), f_law_are_hues]
  have hl : decide (((hs.length : Nat) : Int) = (n : Nat)) = true := decide_eq_true (by rw [hr.1])
  have hl2 : hs.length ≤ 1000000 := by rw [hr.1]; omega
  simp_arith [hl]
  rw [cL1 (fun _ => false) eM (by simp) (fun y hy => by
    have := c_law_is_risingz (N := N - 1) (m := m) (l := y) (by omega) hq (hr.2 y hy)
    simp_arith [eM, this]) (fun y _ _ => by simp_arith)]
  rw [List.filter_eq_nil_iff.mpr (fun _ _ => by decide)]
  simp_arith [List.isEmpty_nil]
end
end Tn

set_option maxRecDepth 100000
namespace Tn
open PySem
local macro_rules | `(tactic| simp_arith [$ls,*]) => `(tactic| simp (disch := first | assumption | omega | rfl | decide) only [$ls,*, runF_mk, LIM_eq, fLK_s, fL_nil, apE_o, x_sti, e_glo, gloK_s, e_cav, cvK_f, kdK_s, kdL_s, e_kdc, newK_o, len_rng, initE_eq, fin_nx, fin_rt, fin_ex, fin_ite, bind_ok, bind_ex, bind_no, bind_ite, of_ok, of_ex, of_no, of_ite, seq_nx, seq_rt, seq_ex, seq_no, seq_ite, bd_d, bd_own, bd_p, bd_ex, bd_ite, lift_some, lift_none, lift_ite, map_some, map_none, opd_d, opd_own, opd_p, toD_d, toD_own, md_nil, md_d, md_own, ma_nil, ma_d, ma_own, ma_h, ma_f, ma_s, mo_nil, mo_d, mo_own, mo_p, e_var, v_own, v_d, v_h, v_f, v_s, e_cst, e_fnr, e_pow, e_bin, e_neg, negI, e_cmp, e_chn, chK_b, e_isn, nn_none, nn_bool, nn_int, nn_str, nn_tup, nn_list, nn_own, nn_p, e_isb, bk_b, bk_n, e_ands, e_ors, e_not, bK_b, e_ite, noP_d, noP_own, noP_ex, noP_ite, e_tup, e_lst, tupK_s, lstK_s, e_idx, ixK_d, ixK_own, ixK_p, ixK_h, ixK_s, memK_s, e_slo, e_shi, e_rev, e_call, clK_s, e_blt, bl2_s, bl2_d, bl2_own, bl2_p, blO_s, e_isi, e_sse, e_lrg, e_trg, e_cm1, cmK_ok, e_cm2, cmK2_ok, e_ler, e_tnot, tnK_b, tnK_i, x_frz, bi_addB, bi_subB, bl_strb, lerK_ok, lerK_ex, lerO_s, lerK_ite, s_nil, s_cons, a_one, a_cons, o_one, o_cons, t_nil, t_cons, tK_b, i_dat, datK_t, datK_l, datK_o, datK_p, i_rng, i_rng2, rng2K_i, rngK_i, i_enm, enm2_t, enm2_l, enm2_o, enm2_p, i_fns, bT_one, bT_onef, bT_tup, x_asg, setS_d, setS_o, setS_f, x_asgs, setK_s, sA_nil, sA_d, sA_o, x_unp, x_newh, appK_s, x_app, x_exp, x_retv, x_ret, rtK_d, rtK_o, x_retN, x_ifs, ifK_b, x_whl, x_fr, x_rai, x_raiv, raK_i, b_nil, b_cons, b_dct, dcK_s, dcO_ok, frz_e, frz_v, frz_ev, frz_r, frz_r2, frz_f, fz_eq, fzK_d, fzK_o, wipe_nil, wipe_cons, c_lt, c_le, c_gt, c_ge, c_eqi, c_nei, c_eqs, c_nes, c_eqb, c_neb, c_eqn, c_nen, c_eqtn, c_netn, bi_add, bi_sub, bi_addt, bi_addl, bi_adds, bl_lent, bl_lenl, bl_tup, bl_int, bl_bool, bl_abs, bl_min, bl_max, ix_t, ix_l, at_0, at_1, at_2, at_3, at_4, isiD, dbl_eq, ite_okb, ite_okB, ite_tb, ite_bt, ite_ft, ite_fx, List.length_cons, List.length_nil, List.map_cons, List.map_nil, List.length_map, List.cons_append, List.nil_append, List.append_nil, Nat.reduceAdd, Nat.reduceSub, Nat.reduceLeDiff, Nat.reduceLT, Nat.zero_add, List.reduceReplicate, List.getElem?_cons_zero, List.getElem?_cons_succ, List.set_cons_zero, List.set_cons_succ, List.zip_cons_cons, List.zip_nil_left, List.zip_nil_right, List.foldl_cons, List.foldl_nil, List.all_cons, List.all_nil, List.take_length, and_true, true_and, if_true, if_false, ite_true, ite_false, if_pos, ↓reduceIte, Bool.false_eq_true, Bool.not_true, Bool.not_false, Bool.true_and, Bool.and_true, Bool.false_and, Bool.and_false, Bool.false_or, Bool.or_false, Bool.true_or, Bool.or_true, Bool.not_not, decide_true, decide_false, bne_self_eq_false, Bool.bne_false, Bool.bne_true, and_self])
local macro_rules | `(tactic| simp_arith) => `(tactic| simp (disch := first | assumption | omega | rfl | decide) only [runF_mk, LIM_eq, fLK_s, fL_nil, apE_o, x_sti, e_glo, gloK_s, e_cav, cvK_f, kdK_s, kdL_s, e_kdc, newK_o, len_rng, initE_eq, fin_nx, fin_rt, fin_ex, fin_ite, bind_ok, bind_ex, bind_no, bind_ite, of_ok, of_ex, of_no, of_ite, seq_nx, seq_rt, seq_ex, seq_no, seq_ite, bd_d, bd_own, bd_p, bd_ex, bd_ite, lift_some, lift_none, lift_ite, map_some, map_none, opd_d, opd_own, opd_p, toD_d, toD_own, md_nil, md_d, md_own, ma_nil, ma_d, ma_own, ma_h, ma_f, ma_s, mo_nil, mo_d, mo_own, mo_p, e_var, v_own, v_d, v_h, v_f, v_s, e_cst, e_fnr, e_pow, e_bin, e_neg, negI, e_cmp, e_chn, chK_b, e_isn, nn_none, nn_bool, nn_int, nn_str, nn_tup, nn_list, nn_own, nn_p, e_isb, bk_b, bk_n, e_ands, e_ors, e_not, bK_b, e_ite, noP_d, noP_own, noP_ex, noP_ite, e_tup, e_lst, tupK_s, lstK_s, e_idx, ixK_d, ixK_own, ixK_p, ixK_h, ixK_s, memK_s, e_slo, e_shi, e_rev, e_call, clK_s, e_blt, bl2_s, bl2_d, bl2_own, bl2_p, blO_s, e_isi, e_sse, e_lrg, e_trg, e_cm1, cmK_ok, e_cm2, cmK2_ok, e_ler, e_tnot, tnK_b, tnK_i, x_frz, bi_addB, bi_subB, bl_strb, lerK_ok, lerK_ex, lerO_s, lerK_ite, s_nil, s_cons, a_one, a_cons, o_one, o_cons, t_nil, t_cons, tK_b, i_dat, datK_t, datK_l, datK_o, datK_p, i_rng, i_rng2, rng2K_i, rngK_i, i_enm, enm2_t, enm2_l, enm2_o, enm2_p, i_fns, bT_one, bT_onef, bT_tup, x_asg, setS_d, setS_o, setS_f, x_asgs, setK_s, sA_nil, sA_d, sA_o, x_unp, x_newh, appK_s, x_app, x_exp, x_retv, x_ret, rtK_d, rtK_o, x_retN, x_ifs, ifK_b, x_whl, x_fr, x_rai, x_raiv, raK_i, b_nil, b_cons, b_dct, dcK_s, dcO_ok, frz_e, frz_v, frz_ev, frz_r, frz_r2, frz_f, fz_eq, fzK_d, fzK_o, wipe_nil, wipe_cons, c_lt, c_le, c_gt, c_ge, c_eqi, c_nei, c_eqs, c_nes, c_eqb, c_neb, c_eqn, c_nen, c_eqtn, c_netn, bi_add, bi_sub, bi_addt, bi_addl, bi_adds, bl_lent, bl_lenl, bl_tup, bl_int, bl_bool, bl_abs, bl_min, bl_max, ix_t, ix_l, at_0, at_1, at_2, at_3, at_4, isiD, dbl_eq, ite_okb, ite_okB, ite_tb, ite_bt, ite_ft, ite_fx, List.length_cons, List.length_nil, List.map_cons, List.map_nil, List.length_map, List.cons_append, List.nil_append, List.append_nil, Nat.reduceAdd, Nat.reduceSub, Nat.reduceLeDiff, Nat.reduceLT, Nat.zero_add, List.reduceReplicate, List.getElem?_cons_zero, List.getElem?_cons_succ, List.set_cons_zero, List.set_cons_succ, List.zip_cons_cons, List.zip_nil_left, List.zip_nil_right, List.foldl_cons, List.foldl_nil, List.all_cons, List.all_nil, List.take_length, and_true, true_and, if_true, if_false, ite_true, ite_false, if_pos, ↓reduceIte, Bool.false_eq_true, Bool.not_true, Bool.not_false, Bool.true_and, Bool.and_true, Bool.false_and, Bool.and_false, Bool.false_or, Bool.or_false, Bool.true_or, Bool.or_true, Bool.not_not, decide_true, decide_false, bne_self_eq_false, Bool.bne_false, Bool.bne_true, and_self])
section
variable {N : Nat} {m : Mem} {n q k : Nat} {ws : List W} {w : W} {v x : D}
def k4T : Ss := (.cons (.asg 8 (.call 27 (.cons (.var 0) (.cons (.idx (.var 1) (.cst (.int (0)))) .nil)))) (.cons (.ifs (.ands (.cons (.isn true (.var 3)) (.cons (.call 45 (.cons (.var 8) (.cons (.idx (.var 1) (.cst (.int (1)))) .nil))) (.cons (.cmp .ne (.call 44 (.cons (.var 8) (.cons (.var 2) .nil))) (.var 3)) .nil)))) (.cons (.ret (.cst (.bool false))) .nil) .nil) .nil))
def k4J : Ss := (.cons (.asgs [3, 4] (.cons (.call 60 (.cons (.idx (.var 1) (.cst (.int (1)))) (.cons (.var 2) .nil))) (.cons (.call 57 (.cons (.var 1) (.cons (.var 2) .nil))) .nil))) (.cons (.ifs (.ors (.cons (.cmp .ne (.isn false (.var 4)) (.isn false (.var 3))) (.cons (.ands (.cons (.isn true (.var 3)) (.cons (.not (.call 14 (.cons (.var 4) (.cons (.var 3) .nil)))) .nil))) .nil))) (.cons (.ret (.cst (.bool false))) .nil) .nil) (.cons (.asgs [5, 6] (.cons (.call 58 (.cons (.var 1) (.cons (.var 2) .nil))) (.cons (.call 23 (.cons (.bin .add (.idx (.var 1) (.cst (.int (1)))) (.tup (.cons (.call 59 (.cons (.var 2) .nil)) .nil))) .nil)) .nil))) (.cons (.ifs (.cmp .eq (.isn false (.var 5)) (.var 6)) (.cons (.ret (.cst (.bool false))) .nil) .nil) (.cons (.ifs (.isn true (.var 5)) (.cons (.ifs (.ors (.cons (.not (.call 19 (.cons (.idx (.var 1) (.cst (.int (0)))) (.cons (.var 5) .nil)))) (.cons (.not (.call 45 (.cons (.var 5) (.cons (.idx (.var 1) (.cst (.int (1)))) .nil)))) (.cons (.call 44 (.cons (.var 5) (.cons (.var 2) .nil))) .nil)))) (.cons (.ret (.cst (.bool false))) .nil) .nil) .nil) .nil) (.cons (.fr (.one 7) (.rng (.cst (.int (6)))) k4T) (.cons (.ret (.cst (.bool true))) .nil)))))))
theorem k4_turn {A4 A5 A6 A7 A8 : Option SV} (h : 9 ≤ N) (hv : Vt m k) (hb : BkOk n ws) (hw : FcOk n w) : ∃ a8 m',
    exB glob (C N) k4T [some (.h k), some (.d (.tuple [.int (n : Nat), .tuple (ws.map eW)])), some (.d (eW w)), some (.d (oB (knownF n ws w))), A4, A5, A6, A7, A8] m
      = .nx [some (.h k), some (.d (.tuple [.int (n : Nat), .tuple (ws.map eW)])), some (.d (eW w)), some (.d (oB (knownF n ws w))), A4, A5, A6, A7, a8] m' ∧ Up m k m' := by
  have h2 := hb.1
  have h3 := hb.2.1
  have h4 := hb.2.2.1
  obtain ⟨hs, m1, e1, hr, u1⟩ := c_law_hues (N := N) (n := n) (by omega) hv (by omega)
  have e2 := c_law_kept (N := N) (m := m1) (by omega) hr (by omega) (by omega) hb.r (by omega)
  have e3 := c_law_so (N := N) (m := m1) (by omega) hr (by omega) (by omega) hw.r
  refine ⟨some (.d (.tuple (hs.map eM))), m1, ?_, u1⟩
  unfold k4T
  cases hq : knownF n ws w with
  | none => unfold oB; simp_arith [e1]; try rfl
  | some b =>
    unfold oB
    cases hk : lkeptF hs ws with
    | false => rw [hk] at e2; simp_arith [e1, e2]; try rfl
    | true =>
      rw [hk] at e2
      rw [hues_sure hr hb.2.2.2 hw hk hq] at e3
      have nb : (!(b == b)) = false := by cases b <;> rfl
      simp_arith [e1, e2, e3, nb]; try rfl
theorem k4_turns {A4 A5 A6 : Option SV} (h : 9 ≤ N) (hb : BkOk n ws) (hw : FcOk n w) : ∀ (xs : List Nat) (m : Mem) (A7 A8 : Option SV), Vt m k → ∃ a7 a8 m',
    forL (.one 7) (exB glob (C N) k4T) (xs.map fun y : Nat => SV.d (.int (y : Int))) [some (.h k), some (.d (.tuple [.int (n : Nat), .tuple (ws.map eW)])), some (.d (eW w)), some (.d (oB (knownF n ws w))), A4, A5, A6, A7, A8] m
      = .nx [some (.h k), some (.d (.tuple [.int (n : Nat), .tuple (ws.map eW)])), some (.d (eW w)), some (.d (oB (knownF n ws w))), A4, A5, A6, a7, a8] m' ∧ Up m k m'
  | [], m, A7, A8, hv => ⟨A7, A8, m, rfl, Up.rfl' hv⟩
  | x :: xs, m, A7, A8, hv => by
    obtain ⟨a8, m1, e1, u1⟩ := k4_turn (N := N) (A4 := A4) (A5 := A5) (A6 := A6) (A7 := some (.d (.int (x : Nat)))) (A8 := A8) h hv hb hw
    obtain ⟨b7, b8, m2, e2, u2⟩ := k4_turns h hb hw xs m1 (some (.d (.int (x : Nat)))) a8 (u1.vt hv)
    refine ⟨b7, b8, m2, ?_, u1.trans u2⟩
    rw [List.map_cons, fL_cons]
    simp_arith [e1]
    exact e2
theorem c_law_judged_2 (h : 10 ≤ N) (hv : Vt m k) (hb : BkOk n ws) (hw : FcOk n w) : ∃ m', C N 61 [.h k, .d (.tuple [.int (n : Nat), .tuple (ws.map eW)]), .d (eW w)] m = .ok (.d (.bool true)) m' ∧ Up m k m' := by
  have h2 := hb.1
  have h3 := hb.2.1
  have h4 := hb.2.2.1
  have e1 := c_law_sure (N := N - 1) (m := m) (n := n) (ws := ws) (w := w) (by omega) (by omega) hb.r hw (by omega)
  have e2 := c_sure (N := N - 1) (m := m) (by omega) hb hw
  have e3 := c_breaking (N := N - 1) (m := m) (by omega) hb hw
  have e4 := c_law_contrary (N := N - 1) (m := m) (w := w) (by omega) hw.1
  have e5 := c_law_can (N := N - 1) (m := m) (n := n) (ws := ws ++ [w.neg]) (by omega) (by omega) (hb.r.add2 hw.r)
  have f : f_law_judged_2 = ⟨3, 9, k4J⟩ := rfl
  have hs0 := hues_some (n := n) (ws := ws ++ [w.neg])
  have r6 : Int.toNat 6 = 6 := rfl
  rw [C_unf t_law_judged_2 (by omega), f]
  have ck : exB glob (C (N - 1)) k4J [some (.h k), some (.d (.tuple [.int (n : Nat), .tuple (ws.map eW)])), some (.d (eW w)), none, none, none, none, none, none] m = .no ∨ True := .inr trivial
  have judge : ∀ b : Bool, C (N - 1) 14 [.d (.bool b), .d (.bool b)] m = .ok (.d (.bool true)) m := fun b => by
    have := c_law_truly (N := N - 1) (m := m) (a := b) (b := b) (by omega)
    rw [beq_self_eq_true] at this
    exact this
  cases hh : huesF n (ws ++ [w.neg]) with
  | none =>
    rw [hh] at e3 hs0
    rw [← hs0] at e5
    obtain ⟨a7, a8, m1, e6, u1⟩ := k4_turns (N := N - 1) (A4 := some (.d (oB (knownF n ws w)))) (A5 := some (.d .none)) (A6 := some (.d (.bool false))) (by omega) hb hw (List.range 6) m none none hv
    rw [← rng_map] at e6
    refine ⟨m1, ?_, u1⟩
    unfold oH at e3
    unfold k4J
    cases hq : knownF n ws w with
    | none =>
      rw [hq] at e1 e2 e6
      unfold oB at e1 e2 e6
      simp_arith [e1, e2, e3, e4, map_add, e5, Option.isSome_none, r6, e6, u1.take]
      try rfl
    | some b =>
      rw [hq] at e1 e2 e6
      unfold oB at e1 e2 e6
      simp_arith [e1, e2, e3, e4, map_add, e5, Option.isSome_none, judge b, r6, e6, u1.take]
      try rfl
  | some hs =>
    rw [hh] at e3 hs0
    rw [← hs0] at e5
    obtain ⟨hr, hk, hb0⟩ := hues_break hb.2.2.2 hw hh
    have e7 := c_law_are_huesz (N := N - 1) (m := m) (by omega) (by omega : ws.length + 1 ≤ 60) hr (by omega)
    have e8 := c_law_kept (N := N - 1) (m := m) (by omega) hr (by omega) (by omega) hb.r (by omega)
    have e9 := c_law_so (N := N - 1) (m := m) (by omega) hr (by omega) (by omega) hw.r
    rw [hk] at e8
    rw [hb0] at e9
    obtain ⟨a7, a8, m1, e6, u1⟩ := k4_turns (N := N - 1) (A4 := some (.d (oB (knownF n ws w)))) (A5 := some (.d (.tuple (hs.map eM)))) (A6 := some (.d (.bool true))) (by omega) hb hw (List.range 6) m none none hv
    rw [← rng_map] at e6
    refine ⟨m1, ?_, u1⟩
    unfold oH at e3
    unfold k4J
    cases hq : knownF n ws w with
    | none =>
      rw [hq] at e1 e2 e6
      unfold oB at e1 e2 e6
      simp_arith [e1, e2, e3, e4, map_add, e5, Option.isSome_some, e7, e8, e9, r6, e6, u1.take]
      try rfl
    | some b =>
      rw [hq] at e1 e2 e6
      unfold oB at e1 e2 e6
      simp_arith [e1, e2, e3, e4, map_add, e5, Option.isSome_some, judge b, e7, e8, e9, r6, e6, u1.take]
      try rfl
theorem y4_need_claim (h : 7 ≤ N) (hk : BkOk n ws) (hv : Sm v) (hf : isFact (n : Nat) v = false) : C N 34 [.d (.tuple [.int (n : Nat), .tuple (ws.map eW)]), .d v] m = .ex 1 none m := by
  have e := c_need_claim (N := N) (m := m) (n := (n : Nat)) h hk.sm hv
  have q := hk.is
  rw [eB] at q
  rw [if_pos q, hf, if_neg (by decide)] at e
  exact e
theorem y4_sure (h : 8 ≤ N) (hk : BkOk n ws) (hv : Sm v) (hf : isFact (n : Nat) v = false) : C N 57 [.d (.tuple [.int (n : Nat), .tuple (ws.map eW)]), .d v] m = .ex 1 none m := by
  have e := y4_need_claim (N := N - 1) (m := m) (by omega) hk hv hf
  rw [C_unf t_sure (by omega), f_sure]; simp_arith [e]
theorem y4_breaking (h : 8 ≤ N) (hk : BkOk n ws) (hv : Sm v) (hf : isFact (n : Nat) v = false) : C N 58 [.d (.tuple [.int (n : Nat), .tuple (ws.map eW)]), .d v] m = .ex 1 none m := by
  have e := y4_need_claim (N := N - 1) (m := m) (by omega) hk hv hf
  rw [C_unf t_breaking (by omega), f_breaking]; simp_arith [e]
def k4U : Ss := (.cons (.asg 4 (.call 26 (.cons (.var 2) (.cons (.cst (.int (6))) (.cons (.cst (.int (5))) .nil))))) (.cons (.ifs (.not (.call 61 (.cons (.var 2) (.cons (.var 4) (.cons (.call 25 (.cons (.var 2) (.cons (.idx (.var 4) (.cst (.int (0)))) .nil))) .nil))))) (.cons (.ret (.cst (.bool false))) .nil) .nil) .nil))
def k4O : Ss := (.cons (.ifs (.cmp .ne (.cm1 (.ler (.cav 6 (.cons (.var 4) (.cons (.var 5) .nil)))) (.one 6) (.fns [57, 58]) [6] .nil) (.bin .mul (.lst (.cons (.cst (.str (.ofString "claim value"))) .nil)) (.cst (.int (2))))) (.cons (.ret (.cst (.bool false))) .nil) .nil) .nil)
def k4B : Ss := (.cons (.newh 2 (.call 10 (.cons (.var 0) (.cons (.var 1) .nil)))) (.cons (.fr (.one 3) (.rng (.cst (.int (5)))) k4U) (.cons (.fr (.one 5) (.dat (.lst (.cons (.cst .none) (.cons (.tup .nil) (.cons (.tup (.cons (.cst (.str (.ofString "same"))) (.cons (.tup (.cons (.cst (.int (0))) .nil)) .nil))) (.cons (.tup (.cons (.cst (.str (.ofString "bares"))) (.cons (.tup (.cons (.cst (.int (0))) .nil)) (.cons (.tup (.cons (.cst (.int (1))) .nil)) .nil)))) (.cons (.tup (.cons (.cst (.str (.ofString "same"))) (.cons (.tup (.cons (.cst (.int (0))) .nil)) (.cons (.tup (.cons (.idx (.var 4) (.cst (.int (0)))) .nil)) .nil)))) .nil))))))) k4O) .nil)))
def k4Z : Ss := (.cons (.asgs [7, 8, 9] (.cons (.tup (.cons (.cst (.int (0))) .nil)) (.cons (.tup (.cons (.cst (.int (1))) .nil)) (.cons (.tup (.cons (.cst (.int (2))) .nil)) .nil)))) (.cons (.asgs [4, 10] (.cons (.tup (.cons (.cst (.int (3))) (.cons (.tup (.cons (.tup (.cons (.cst (.str (.ofString "same"))) (.cons (.tup (.cons (.cst (.int (0))) (.cons (.cst (.int (1))) .nil))) (.cons (.var 9) .nil)))) .nil)) .nil))) (.cons (.tup (.cons (.cst (.int (3))) (.cons (.tup (.cons (.tup (.cons (.cst (.str (.ofString "same"))) (.cons (.tup (.cons (.cst (.int (0))) (.cons (.cst (.int (1))) .nil))) (.cons (.var 9) .nil)))) (.cons (.tup (.cons (.cst (.str (.ofString "unlike"))) (.cons (.var 7) (.cons (.var 9) .nil)))) .nil))) .nil))) .nil))) (.cons (.asg 11 (.lst (.cons (.tup (.cons (.cst (.str (.ofString "same"))) (.cons (.tup (.cons (.cst (.int (0))) (.cons (.cst (.int (2))) .nil))) (.cons (.tup (.cons (.cst (.int (1))) (.cons (.cst (.int (2))) .nil))) .nil)))) (.cons (.tup (.cons (.cst (.str (.ofString "same"))) (.cons (.var 7) (.cons (.var 9) .nil)))) (.cons (.tup (.cons (.cst (.str (.ofString "covers"))) (.cons (.var 9) (.cons (.var 7) .nil)))) (.cons (.tup (.cons (.cst (.str (.ofString "unlike"))) (.cons (.var 7) (.cons (.var 8) .nil)))) (.cons (.tup (.cons (.cst (.str (.ofString "covers"))) (.cons (.var 7) (.cons (.var 8) .nil)))) .nil))))))) (.cons (.ifs (.cmp .ne (.cm1 (.call 57 (.cons (.var 4) (.cons (.var 12) .nil))) (.one 12) (.dat (.var 11)) [12] .nil) (.lst (.cons (.cst (.bool true)) (.cons (.cst .none) (.cons (.cst (.bool true)) (.cons (.cst .none) (.cons (.cst .none) .nil))))))) (.cons (.ret (.cst (.bool false))) .nil) .nil) (.cons (.ifs (.cmp .ne (.cm1 (.call 57 (.cons (.var 10) (.cons (.var 12) .nil))) (.one 12) (.dat (.var 11)) [12] .nil) (.lst (.cons (.cst (.bool true)) (.cons (.cst (.bool false)) (.cons (.cst (.bool true)) (.cons (.cst (.bool true)) (.cons (.cst (.bool false)) .nil))))))) (.cons (.ret (.cst (.bool false))) .nil) .nil) (.cons (.ifs (.ors (.cons (.isn true (.call 57 (.cons (.tup (.cons (.cst (.int (2))) (.cons (.tup (.cons (.tup (.cons (.cst (.str (.ofString "unlike"))) (.cons (.var 7) (.cons (.var 7) .nil)))) .nil)) .nil))) (.cons (.tup (.cons (.cst (.str (.ofString "same"))) (.cons (.var 7) (.cons (.var 7) .nil)))) .nil)))) (.cons (.isn true (.call 58 (.cons (.var 4) (.cons (.idx (.var 11) (.cst (.int (0)))) .nil)))) .nil))) (.cons (.ret (.cst (.bool false))) .nil) .nil) (.cons (.ret (.ands (.cons (.isn false (.call 57 (.cons (.var 10) (.cons (.tup (.cons (.cst (.str (.ofString "unlike"))) (.cons (.var 8) (.cons (.var 9) .nil)))) .nil)))) (.cons (.isb (.call 57 (.cons (.var 4) (.cons (.tup (.cons (.cst (.str (.ofString "unlike"))) (.cons (.var 7) (.cons (.var 7) .nil)))) .nil))) false) .nil)))) .nil)))))))
theorem k4_bt {A0 A1 A3 A4 A5 A6 A7 A8 A9 A10 A11 A12 : Option SV} (h : 11 ≤ N) (hv : Vt m k) : ∃ n ws m', BkOk n ws ∧
    exB glob (C N) k4U [A0, A1, some (.h k), A3, A4, A5, A6, A7, A8, A9, A10, A11, A12] m = .nx [A0, A1, some (.h k), A3, some (.d (.tuple [.int (n : Nat), .tuple (ws.map eW)])), A5, A6, A7, A8, A9, A10, A11, A12] m' ∧ Up m k m' := by
  obtain ⟨n, ws, m1, e1, hb, n6, l6, u1⟩ := c_law_book (N := N) (most := 6) (size := 5) (by omega) hv (by omega) (by omega) (by omega)
  have v1 := u1.vt hv
  have h1 := hb.1
  obtain ⟨w, m2, e2, fw, u2⟩ := c_law_fact (N := N) (n := n) (by omega) v1 (by omega) (by omega)
  have v2 := u2.vt v1
  obtain ⟨m3, e3, u3⟩ := c_law_judged_2 (N := N) (by omega) v2 hb fw
  rw [show ((6 : Nat) : Int) = 6 from rfl, show ((5 : Nat) : Int) = 5 from rfl] at e1
  refine ⟨n, ws, m3, hb, ?_, u1.trans (u2.trans u3)⟩
  unfold k4U
  unfold eB at e1
  simp_arith [e1, e2, e3]
theorem k4_bts {A0 A1 A5 A6 A7 A8 A9 A10 A11 A12 : Option SV} (h : 11 ≤ N) : ∀ (xs : List Nat) (x : Nat) (m : Mem) (A3 A4 : Option SV), Vt m k → ∃ n ws a3 m', BkOk n ws ∧
    forL (.one 3) (exB glob (C N) k4U) ((x :: xs).map fun y : Nat => SV.d (.int (y : Int))) [A0, A1, some (.h k), A3, A4, A5, A6, A7, A8, A9, A10, A11, A12] m = .nx [A0, A1, some (.h k), a3, some (.d (.tuple [.int (n : Nat), .tuple (ws.map eW)])), A5, A6, A7, A8, A9, A10, A11, A12] m' ∧ Up m k m'
  | [], x, m, A3, A4, hv => by
    obtain ⟨n, ws, m1, hb, e1, u1⟩ := k4_bt (N := N) (A0 := A0) (A1 := A1) (A5 := A5) (A6 := A6) (A7 := A7) (A8 := A8) (A9 := A9) (A10 := A10) (A11 := A11) (A12 := A12) (A3 := some (.d (.int (x : Nat)))) (A4 := A4) h hv
    refine ⟨n, ws, some (.d (.int (x : Nat))), m1, hb, ?_, u1⟩
    rw [List.map_cons, fL_cons]
    simp_arith [e1]
  | y :: xs, x, m, A3, A4, hv => by
    obtain ⟨n, ws, m1, hb, e1, u1⟩ := k4_bt (N := N) (A0 := A0) (A1 := A1) (A5 := A5) (A6 := A6) (A7 := A7) (A8 := A8) (A9 := A9) (A10 := A10) (A11 := A11) (A12 := A12) (A3 := some (.d (.int (x : Nat)))) (A4 := A4) h hv
    obtain ⟨n2, ws2, b3, m2, hb2, e2, u2⟩ := k4_bts h xs y m1 (some (.d (.int (x : Nat)))) (some (.d (.tuple [.int (n : Nat), .tuple (ws.map eW)]))) (u1.vt hv)
    refine ⟨n2, ws2, b3, m2, hb2, ?_, u1.trans u2⟩
    rw [List.map_cons, fL_cons]
    rw [show bindT (.one 3) (SV.d (.int (x : Int))) [A0, A1, some (.h k), A3, A4, A5, A6, A7, A8, A9, A10, A11, A12] = some [A0, A1, some (.h k), some (.d (.int (x : Nat))), A4, A5, A6, A7, A8, A9, A10, A11, A12] from rfl, fLK_s, e1, seq_nx, e2]
theorem k4_odds {A0 A1 A2 A3 A7 A8 A9 A10 A11 A12 : Option SV} (h : 9 ≤ N) (hb : BkOk n ws) : ∀ (vs : List D) (A5 : Option SV), (∀ v ∈ vs, Sm v ∧ isFact (n : Nat) v = false) → ∃ a5,
    forL (.one 5) (exB glob (C N) k4O) (vs.map .d) [A0, A1, A2, A3, some (.d (.tuple [.int (n : Nat), .tuple (ws.map eW)])), A5, none, A7, A8, A9, A10, A11, A12] m = .nx [A0, A1, A2, A3, some (.d (.tuple [.int (n : Nat), .tuple (ws.map eW)])), a5, none, A7, A8, A9, A10, A11, A12] m
  | [], A5, _ => ⟨A5, rfl⟩
  | v :: vs, A5, hv => by
    obtain ⟨s1, i1⟩ := hv v (.head _)
    have e1 := y4_sure (N := N) (m := m) (by omega) hb s1 i1
    have e2 := y4_breaking (N := N) (m := m) (by omega) hb s1 i1
    obtain ⟨a5, e⟩ := k4_odds h hb vs (some (.d v)) fun x hx => hv x (.tail _ hx)
    refine ⟨a5, ?_⟩
    have cl := cLs (i := 0) (tst := evT glob (C N) .nil) (el := evE glob (C N) (.ler (.cav 6 (.cons (.var 4) (.cons (.var 5) .nil))))) (env := [A0, A1, A2, A3, some (.d (.tuple [.int (n : Nat), .tuple (ws.map eW)])), some (.d v), none, A7, A8, A9, A10, A11, A12]) (m := m) (tg := .one 6) SV.f (fun _ => true) (fun _ => PyData.str (.ofString "claim value"))
      (fun y => [A0, A1, A2, A3, some (.d (.tuple [.int (n : Nat), .tuple (ws.map eW)])), some (.d v), some (.f y), A7, A8, A9, A10, A11, A12]) [57, 58] [] (fun y _ => by simp_arith) (fun y _ => by simp_arith) (fun y hy _ => by
        simp only [List.mem_cons, List.not_mem_nil, or_false] at hy
        rcases hy with rfl | rfl
        · exact ⟨_, by simp_arith [e1, r_InvalidClaim]; rfl, rfl⟩
        · exact ⟨_, by simp_arith [e2, r_InvalidClaim]; rfl, rfl⟩)
    simp only [List.map_cons, List.map_nil, List.filter_cons, List.filter_nil, if_true, List.nil_append] at cl
    have bm : binD .mul (.list [.str (.ofString "claim value")]) (.int 2) = some (.own [.str (.ofString "claim value"), .str (.ofString "claim value")]) := rfl
    have ne : cmpD .ne (.list [.str (.ofString "claim value"), .str (.ofString "claim value")]) (.list [.str (.ofString "claim value"), .str (.ofString "claim value")]) = some false := by decide +kernel
    rw [List.map_cons, fL_cons]
    unfold k4O at e ⊢
    simp_arith [cl, bm, ne]
    exact e
theorem k4_oddok (h1 : 2 ≤ n) (h2 : n ≤ 6) : ∀ v ∈ [PyData.none, .tuple [], .tuple [.str (.ofString "same"), .tuple [.int 0]], .tuple [.str (.ofString "bares"), .tuple [.int 0], .tuple [.int 1]], .tuple [.str (.ofString "same"), .tuple [.int 0], .tuple [.int (n : Nat)]]], Sm v ∧ isFact (n : Nat) v = false := by
  have : n = 2 ∨ n = 3 ∨ n = 4 ∨ n = 5 ∨ n = 6 := by omega
  intro v hv
  simp only [List.mem_cons, List.not_mem_nil, or_false] at hv
  rcases this with rfl | rfl | rfl | rfl | rfl <;> rcases hv with rfl | rfl | rfl | rfl | rfl <;> exact ⟨by simp [Sm, SmAll], by decide +kernel⟩
theorem k4_one {ns : List Int} {i : Nat} {A2 A3 A4 A5 A7 A8 A9 A10 A11 A12 : Option SV} (h : 11 ≤ N) (hi : i < 1000) (hl : ns.length ≤ 1000000) : ∃ a2 a3 a4 a5 m',
    exB glob (C N) k4B [some (.s ns), some (.d (.int (i : Nat))), A2, A3, A4, A5, none, A7, A8, A9, A10, A11, A12] m = .nx [some (.s ns), some (.d (.int (i : Nat))), a2, a3, a4, a5, none, A7, A8, A9, A10, A11, A12] m' := by
  obtain ⟨a, b, e1, vo⟩ := c_law_vat (N := N) (m := m) (ns := ns) (i := i) (by omega) hi hl
  have hv : Vt (m ++ [.nums [a, b]]) m.length := ⟨a, b, by rw [List.getElem?_append_right (Nat.le_refl _), Nat.sub_self]; rfl, vo⟩
  obtain ⟨n, ws, a3, m1, hb, e2, u1⟩ := k4_bts (N := N) (k := m.length) (A0 := some (.s ns)) (A1 := some (.d (.int (i : Nat)))) (A5 := A5) (A6 := none) (A7 := A7) (A8 := A8) (A9 := A9) (A10 := A10) (A11 := A11) (A12 := A12) h [1, 2, 3, 4] 0 (m ++ [.nums [a, b]]) A3 A4 hv
  obtain ⟨a5, e3⟩ := k4_odds (N := N) (m := m1) (A0 := some (.s ns)) (A1 := some (.d (.int (i : Nat)))) (A2 := some (.h m.length)) (A3 := a3) (A7 := A7) (A8 := A8) (A9 := A9) (A10 := A10) (A11 := A11) (A12 := A12) (by omega) hb _ A5 (k4_oddok hb.1 hb.2.1)
  rw [show [0, 1, 2, 3, 4] = List.range 5 from rfl, ← rng_map] at e2
  simp only [List.map_cons, List.map_nil] at e3
  have r5 : Int.toNat 5 = 5 := rfl
  have io : intsOf [.int a, .int b] = some [a, b] := rfl
  refine ⟨some (.h m.length), a3, some (.d (.tuple [.int (n : Nat), .tuple (ws.map eW)])), a5, m1, ?_⟩
  unfold k4B
  simp_arith [e1, io, nwK_s, r5, e2, e3]
  try rfl
theorem k4_all {ns : List Int} {A7 A8 A9 A10 A11 A12 : Option SV} (h : 11 ≤ N) (hl : ns.length ≤ 1000000) : ∀ (xs : List Nat) (m : Mem) (A1 A2 A3 A4 A5 : Option SV), (∀ x ∈ xs, x < 1000) → ∃ a1 a2 a3 a4 a5 m',
    forL (.one 1) (exB glob (C N) k4B) (xs.map fun y : Nat => SV.d (.int (y : Int))) [some (.s ns), A1, A2, A3, A4, A5, none, A7, A8, A9, A10, A11, A12] m = .nx [some (.s ns), a1, a2, a3, a4, a5, none, A7, A8, A9, A10, A11, A12] m'
  | [], m, A1, A2, A3, A4, A5, _ => ⟨A1, A2, A3, A4, A5, m, rfl⟩
  | x :: xs, m, A1, A2, A3, A4, A5, hx => by
    obtain ⟨a2, a3, a4, a5, m1, e1⟩ := k4_one (N := N) (m := m) (ns := ns) (i := x) (A2 := A2) (A3 := A3) (A4 := A4) (A5 := A5) (A7 := A7) (A8 := A8) (A9 := A9) (A10 := A10) (A11 := A11) (A12 := A12) h (hx x (.head _)) hl
    obtain ⟨b1, b2, b3, b4, b5, m2, e2⟩ := k4_all h hl xs m1 (some (.d (.int (x : Nat)))) a2 a3 a4 a5 fun y hy => hx y (.tail _ hy)
    refine ⟨b1, b2, b3, b4, b5, m2, ?_⟩
    rw [List.map_cons, fL_cons]
    simp_arith [e1]
    exact e2
def clW : List W := [⟨.same, [0, 2], [1, 2]⟩, ⟨.same, [0], [2]⟩, ⟨.covers, [2], [0]⟩, ⟨.unlike, [0], [1]⟩, ⟨.covers, [0], [1]⟩]
def b4W : List W := [⟨.same, [0, 1], [2]⟩]
def f4W : List W := [⟨.same, [0, 1], [2]⟩, ⟨.unlike, [0], [2]⟩]
instance {n : Nat} {l : List Int} : Decidable (MixR n l) := by unfold MixR; infer_instance
instance {n : Nat} {l : List Int} : Decidable (MixOk n l) := by unfold MixOk; infer_instance
instance {n : Nat} {w : W} : Decidable (FcOk n w) := by unfold FcOk; infer_instance
instance {n : Nat} {ws : List W} : Decidable (BkOk n ws) := by unfold BkOk; infer_instance
theorem k4_ok : BkOk 3 b4W ∧ BkOk 3 f4W ∧ (∀ w ∈ clW, FcOk 3 w) ∧ BkOk 2 [⟨.unlike, [0], [0]⟩] ∧ FcOk 2 ⟨.same, [0], [0]⟩ ∧ FcOk 3 ⟨.unlike, [1], [2]⟩ ∧ FcOk 3 ⟨.unlike, [0], [0]⟩ := by decide +kernel
theorem k4_val : cmpD .ne (.list (clW.map fun c => oB (knownF 3 b4W c))) (.list [.bool true, .none, .bool true, .none, .none]) = some false ∧ cmpD .ne (.list (clW.map fun c => oB (knownF 3 f4W c))) (.list [.bool true, .bool false, .bool true, .bool true, .bool false]) = some false ∧ knownF 2 [⟨.unlike, [0], [0]⟩] ⟨.same, [0], [0]⟩ = none ∧ canF 3 (b4W ++ [W.neg ⟨.same, [0, 2], [1, 2]⟩]) = false ∧ knownF 3 f4W ⟨.unlike, [1], [2]⟩ = none ∧ knownF 3 b4W ⟨.unlike, [0], [0]⟩ = some false := by decide +kernel
theorem k4_end {A0 A1 A2 A3 A4 A5 A6 A7 A8 A9 A10 A11 A12 : Option SV} (h : 9 ≤ N) : exB glob (C N) k4Z [A0, A1, A2, A3, A4, A5, A6, A7, A8, A9, A10, A11, A12] m = .rt (.d (.bool true)) m := by
  obtain ⟨o1, o2, o3, o4, o5, o6, o7⟩ := k4_ok
  obtain ⟨v1, v2, v3, v4, v5, v6⟩ := k4_val
  have s1 : ∀ c ∈ clW, C N 57 [.d (.tuple [.int (3 : Nat), .tuple (b4W.map eW)]), .d (eW c)] m = .ok (.d (oB (knownF 3 b4W c))) m := fun c hc => c_sure (by omega) o1 (o3 c hc)
  have s2 : ∀ c ∈ clW, C N 57 [.d (.tuple [.int (3 : Nat), .tuple (f4W.map eW)]), .d (eW c)] m = .ok (.d (oB (knownF 3 f4W c))) m := fun c hc => c_sure (by omega) o2 (o3 c hc)
  have e3 := c_sure (N := N) (m := m) (by omega) o4 o5
  have e4 := c_breaking (N := N) (m := m) (by omega) o1 (o3 ⟨.same, [0, 2], [1, 2]⟩ (by decide +kernel))
  have e5 := c_sure (N := N) (m := m) (by omega) o2 o6
  have e6 := c_sure (N := N) (m := m) (by omega) o1 o7
  have hn : huesF 3 (b4W ++ [W.neg ⟨.same, [0, 2], [1, 2]⟩]) = none := by
    have := hues_some (n := 3) (ws := b4W ++ [W.neg ⟨.same, [0, 2], [1, 2]⟩])
    rw [v4] at this
    cases q : huesF 3 (b4W ++ [W.neg ⟨.same, [0, 2], [1, 2]⟩]) with
    | none => rfl
    | some x => rw [q] at this; cases this
  rw [v3] at e3
  rw [hn] at e4
  rw [v5] at e5
  rw [v6] at e6
  have cb : b4W.map eW = [.tuple [.str (.ofString "same"), .tuple [.int 0, .int 1], .tuple [.int 2]]] := rfl
  have cf : f4W.map eW = [.tuple [.str (.ofString "same"), .tuple [.int 0, .int 1], .tuple [.int 2]], .tuple [.str (.ofString "unlike"), .tuple [.int 0], .tuple [.int 2]]] := rfl
  have cc : [PyData.tuple [.str (.ofString "same"), .tuple [.int 0, .int 2], .tuple [.int 1, .int 2]], .tuple [.str (.ofString "same"), .tuple [.int 0], .tuple [.int 2]], .tuple [.str (.ofString "covers"), .tuple [.int 2], .tuple [.int 0]], .tuple [.str (.ofString "unlike"), .tuple [.int 0], .tuple [.int 1]], .tuple [.str (.ofString "covers"), .tuple [.int 0], .tuple [.int 1]]] = clW.map eW := rfl
  rw [cb] at s1 e4 e6
  rw [cf] at s2 e5
  unfold oB at e3 e5 e6
  unfold oH at e4
  simp only [List.map_cons, List.map_nil, eW, Wd.s] at e3 e4 e5 e6
  rw [show ((3 : Nat) : Int) = 3 from rfl] at s1 s2 e4 e5 e6
  rw [show ((2 : Nat) : Int) = 2 from rfl] at e3
  unfold k4Z
  simp_arith
  have ci : [SV.d (PyData.tuple [.str (.ofString "same"), .tuple [.int 0, .int 2], .tuple [.int 1, .int 2]]), .d (.tuple [.str (.ofString "same"), .tuple [.int 0], .tuple [.int 2]]), .d (.tuple [.str (.ofString "covers"), .tuple [.int 2], .tuple [.int 0]]), .d (.tuple [.str (.ofString "unlike"), .tuple [.int 0], .tuple [.int 1]]), .d (.tuple [.str (.ofString "covers"), .tuple [.int 0], .tuple [.int 1]])] = (clW.map eW).map .d := rfl
  rw [ci, cL0 (fun c => oB (knownF 3 b4W c)) (by simp) (fun y _ => by simp_arith) (fun y hy => by
    have := s1 y hy
    simp_arith [this])]
  simp_arith [v1]
  rw [ci, cL0 (fun c => oB (knownF 3 f4W c)) (by simp) (fun y _ => by simp_arith) (fun y hy => by
    have := s2 y hy
    simp_arith [this])]
  simp_arith [v2, e3, e4, e5, e6]
  try rfl
theorem c_law_k04 {ns : List Int} (h : 12 ≤ N) (hl : ns.length ≤ 63) : ∃ m, C N 62 [.s ns] [] = .ok (.d (.bool true)) m := by
  obtain ⟨K, hK, eK⟩ := mm_ok (lo := 6) (hi := 14) (l := (ns.length : Int)) (by omega) (by omega)
  obtain ⟨a1, a2, a3, a4, a5, m, e⟩ := k4_all (N := N - 1) (ns := ns) (A7 := none) (A8 := none) (A9 := none) (A10 := none) (A11 := none) (A12 := none) (by omega) (by omega) (List.range K) [] none none none none none (fun x hx => by have := List.mem_range.mp hx; omega)
  rw [← rng_map] at e
  have e2 := k4_end (N := N - 1) (m := m) (A0 := some (.s ns)) (A1 := a1) (A2 := a2) (A3 := a3) (A4 := a4) (A5 := a5) (A6 := none) (A7 := none) (A8 := none) (A9 := none) (A10 := none) (A11 := none) (A12 := none) (by omega)
  refine ⟨[], ?_⟩
  rw [C_unf t_law_k04 (by omega)]
  have f : f_law_k04 = ⟨1, 13, .cons (.fr (.one 1) (.rng (.blt .max2 (.cons (.cst (.int (6))) (.cons (.blt .min2 (.cons (.cst (.int (14))) (.cons (.blt .len (.cons (.var 0) .nil)) .nil))) .nil)))) k4B) k4Z⟩ := rfl
  rw [f]
  simp_arith [eK, Int.toNat_natCast, e, e2]
  try rfl
end
end Tn

set_option maxRecDepth 1000000
set_option maxHeartbeats 0
theorem PySem.Challenge.cw_anypaint_k04_whole_claims_that_surely_ar_holds : PySem.Challenge.rw_anypaint_k04_whole_claims_that_surely_ar.Holds := by
  refine Tn.holds_of Tn.run 14 63 ⟨rfl, by decide, by decide⟩ (by rfl) (by decide) fun ns hl => ?_
  have h := Tn.c_law_k04 (N := 14) (ns := ns) (by omega) (by omega)
  unfold Tn.C at h
  rw [Tn.glob_eq, Tn.tab_eq] at h
  exact h

