import PyProof.Rows.All
import Wide.All
import OpenK.AllK
import Wide.FinOn
import HandS.ForMost
import HandS.ForExc
import HandS.Flow
import HandS.IsInst
import HandS.ReplaceList
import HandS.Replace
import HandS.TupAny
import HandS.Star
import HandS.CallSlots
import HandS.ReplaceLit
import PyProof.AutoSeq1
import HandS.Exc
import HandS.ExcField
import KE.KExcInit
import KE.KExcMake
import PyProof.InstStoreFacts
import HandS.WordsExc
import HandS.ReplaceDef
import HandS.Defaults
import HandS.Head0
import HandS.Head1
import HandS.Head2
import HandS.HeadEnd
import HandS.HeadHook1
import HandS.HeadHook2
import HandS.HeadHook3
import HandS.HeadHook4
import KE.KStateDown
import HandS.Words
import PySem.Challenge.RW_patchset_k12_asks_with_wrong_words
section
/-! Ev0: data, the small language, and what its programs compute. Core Lean alone. -/
set_option linter.all false
namespace Ev

/-- data: trees -/
inductive D where
  | non
  | bl (b : Bool)
  | int (i : Int)
  | str (s : List Nat)
  | tup (ds : List D)
  | lst (ds : List D)
  /-- the script: ints, read alone -/
  | scr (ns : List Int)
  deriving Inhabited

/-- how a list stands: a value that stays (v), one just made (f), one that a name of the def owns (b) -/
inductive Kd where
  | v | f | b
  deriving DecidableEq, Inhabited

inductive R (α : Type) where
  | ok (a : α)
  | exn (x : Nat) (a : D)
  | stuck
  deriving Inhabited

def R.bind {α β : Type} : R α → (α → R β) → R β
  | .ok a, k => k a
  | .exn x a, _ => .exn x a
  | .stuck, _ => .stuck

/-- nothing is raised -/
def R.quiet {α : Type} : R α → R α
  | .ok a => .ok a
  | _ => .stuck

/-- the size that the machine lets -/
def szl : Nat := 16777216

inductive Bop where
  | add | sub | mul | fdiv | mod | pow
  deriving DecidableEq, Inhabited
inductive Cop where
  | eq | ne | lt | le | gt | ge | is | isnot | isin | notin
  deriving DecidableEq, Inhabited
inductive Blt where
  | len | int1 | str1 | any1 | tuple1
  deriving DecidableEq, Inhabited
inductive Mth where
  | replace | split | join | find
  deriving DecidableEq, Inhabited
inductive Ty where
  | tint | tstr | tbool | tlist | ttuple
  deriving DecidableEq, Inhabited
inductive Itk where
  | seq | rng1 | rng2
  deriving DecidableEq, Inhabited
inductive Tg where
  | one (i : Nat)
  | tup (is : List Nat)
  deriving DecidableEq, Inhabited

mutual
inductive E where
  | var (i : Nat)
  | cst (d : D)
  | nope
  | bin (o : Bop) (a b : E)
  | neg (a : E)
  | cmp (o : Cop) (a b : E)
  | chn (o p : Cop) (a b c : E)
  | and (a b : E)
  | or (a b : E)
  | not (a : E)
  | ite (c a b : E)
  | tup (es : Es)
  | lst (es : Es)
  | idx (a i : E)
  | slc (a lo hi : E)
  | call (f : Nat) (es : Es)
  | blt (o : Blt) (es : Es)
  | isi (a : E) (ts : List Ty)
  | mth (m : Mth) (a : E) (es : Es)
  | cmpr (own : List Nat) (tg : Tg) (k : Itk) (it : Es) (cond elt : E)
inductive Es where
  | nil
  | cons (star : Bool) (e : E) (r : Es)
end

inductive M where
  | e (a : E)
  | pop (i : Nat)
  | call1 (f : Nat) (m : M)
  | tup3 (a : E) (m : M) (c : E)

mutual
inductive S where
  | pass
  | asg (tg : Tg) (a : E)
  | asgM (i : Nat) (m : M)
  | aug (i : Nat) (o : Bop) (a : E)
  | expr (a : E)
  | app (i : Nat) (m : M)
  | ext (i : Nat) (a : E)
  | popS (i : Nat)
  | io (f : Nat) (is : List Nat) (es : Es)
  | ifS (c : E) (a b : Ss)
  | whl (c : E) (a : Ss)
  | forS (tg : Tg) (k : Itk) (it : Es) (a : Ss)
  | ret (a : E)
  | retN
  | brk
  | cnt
  | rais (x : Nat) (a : E)
  | tryAt (x : Nat) (i : Nat) (a : E)
inductive Ss where
  | nil
  | cons (s : S) (r : Ss)
end

inductive Slot where
  | none
  | val (d : D)
  | own (d : D)
  | lck (d : D)
  deriving Inhabited

/-! ### operations on data -/

def truthD : D → Option Bool
  | .non => some false
  | .bl b => some b
  | .int i => some (i != 0)
  | .str s => if s.length ≤ szl then some (!s.isEmpty) else none
  | .tup ds => some (!ds.isEmpty)
  | .lst ds => some (!ds.isEmpty)
  | .scr _ => none

mutual
/-- no list in it -/
def lf : D → Bool
  | .tup ds => lfs ds
  | .lst _ => false
  | _ => true
def lfs : List D → Bool
  | [] => true
  | d :: ds => lf d && lfs ds
end
/-- no list in it but itself -/
def lf1 : D → Bool
  | .lst ds => lfs ds
  | d => lf d

mutual
/-- how deep -/
def dep : D → Nat
  | .scr _ => 1000
  | .tup ds => deps ds + 1
  | .lst ds => deps ds + 1
  | _ => 0
def deps : List D → Nat
  | [] => 0
  | d :: ds => max (dep d) (deps ds)
end

def b2z (b : Bool) : Int := if b then 1 else 0
mutual
def eqD : D → D → Bool
  | .non, .non => true
  | .bl a, .bl b => a == b
  | .bl a, .int j => b2z a == j
  | .int i, .bl b => i == b2z b
  | .int i, .int j => i == j
  | .str x, .str y => x == y
  | .lst xs, .lst ys => eqDs xs ys
  | .tup xs, .tup ys => eqDs xs ys
  | _, _ => false
def eqDs : List D → List D → Bool
  | [], [] => true
  | x :: xs, y :: ys => eqD x y && eqDs xs ys
  | _, _ => false
end

/-- texts in order -/
def ltS : List Nat → List Nat → Bool
  | [], [] => false
  | [], _ :: _ => true
  | _ :: _, [] => false
  | a :: as, b :: bs => if a < b then true else if b < a then false else ltS as bs

/-- one text begins another -/
def isPre : List Nat → List Nat → Bool
  | [], _ => true
  | _ :: _, [] => false
  | a :: as, b :: bs => a == b && isPre as bs
/-- one text stands in another -/
def inS (x : List Nat) : List Nat → Bool
  | [] => isPre x []
  | c :: r => isPre x (c :: r) || inS x r
/-- at what place first -/
def findS (x : List Nat) : Nat → List Nat → Option Nat
  | k, [] => if isPre x [] then some k else none
  | k, c :: r => if isPre x (c :: r) then some k else findS x (k + 1) r

/-- flat data -/
def flatD : D → Bool
  | .tup _ => false
  | .lst _ => false
  | .scr _ => false
  | _ => true

def inL (x : D) : List D → Bool
  | [] => false
  | y :: ys => eqD y x || inL x ys

def isNonD : D → Bool
  | .non => true
  | _ => false

def isinD (x : D) : D → Option Bool
  | .str y => match x with | .str x => some (inS x y) | _ => none
  | .tup ys => if flatD x && ys.all flatD then some (inL x ys) else none
  | .lst ys => if flatD x && ys.all flatD then some (inL x ys) else none
  | _ => none

def cmpD : Cop → D → D → Option Bool
  | .eq, a, b => if dep a ≤ 60 ∧ dep b ≤ 60 then some (eqD a b) else none
  | .ne, a, b => if dep a ≤ 60 ∧ dep b ≤ 60 then some (!eqD a b) else none
  | .lt, .int i, .int j => some (decide (i < j))
  | .le, .int i, .int j => some (decide (i ≤ j))
  | .gt, .int i, .int j => some (decide (j < i))
  | .ge, .int i, .int j => some (decide (j ≤ i))
  | .lt, .str x, .str y => some (ltS x y)
  | .le, .str x, .str y => some (!ltS y x)
  | .gt, .str x, .str y => some (ltS y x)
  | .ge, .str x, .str y => some (!ltS x y)
  | .is, a, .non => some (isNonD a)
  | .isnot, a, .non => some (!isNonD a)
  | .isin, a, b => isinD a b
  | .notin, a, b => (isinD a b).map (!·)
  | _, _, _ => none

def repD (n : Nat) (ds : List D) : List D := (List.replicate n ds).flatten
def repS (n : Nat) (ds : List Nat) : List Nat := (List.replicate n ds).flatten

def binD : Bop → D → D → Option (Kd × D)
  | .add, .int i, .int j => some (.v, .int (i + j))
  | .add, .str x, .str y => if x.length + y.length ≤ szl then some (.v, .str (x ++ y)) else none
  | .add, .tup x, .tup y => if x.length + y.length ≤ szl then some (.v, .tup (x ++ y)) else none
  | .add, .lst x, .lst y => if x.length + y.length ≤ szl then some (.f, .lst (x ++ y)) else none
  | .sub, .int i, .int j => some (.v, .int (i - j))
  | .mul, .int i, .int j => if (-18446744073709551616 < i ∧ i < 18446744073709551616) ∨ (-18446744073709551616 < j ∧ j < 18446744073709551616) then some (.v, .int (i * j)) else none
  | .mul, .str x, .int j => if 1 ≤ j ∧ j ≤ 1000000 ∧ x.length * j.toNat ≤ 1000000 ∧ 1 ≤ x.length then some (.v, .str (repS j.toNat x)) else none
  | .mul, .lst x, .int j => if 0 ≤ j ∧ j ≤ 1000000 ∧ x.length * j.toNat ≤ szl then some (.f, .lst (repD j.toNat x)) else none
  | .fdiv, .int i, .int j => if 0 < j ∧ j < 1073741824 then some (.v, .int (i / j)) else none
  | .mod, .int i, .int j => if 0 < j then some (.v, .int (i % j)) else none
  | .pow, .int i, .int j => if 0 ≤ j ∧ j ≤ 1000000 ∧ i.natAbs < 18446744073709551616 then some (.v, .int (i ^ j.toNat)) else none
  | _, _, _ => none

/-- x op= y -/
def augD : Bop → D → D → Option D
  | .add, .int i, .int j => some (.int (i + j))
  | .sub, .int i, .int j => some (.int (i - j))
  | _, _, _ => none

/-- the place that an index tells -/
def ixD (n : Nat) (i : Int) : Option Nat :=
  if 0 ≤ i then (if i < n then some i.toNat else none) else if -(n : Int) ≤ i then some (i + n).toNat else none

def idxD : D → D → Option D
  | .tup ds, .int i => match ixD ds.length i with | some j => ds[j]? | none => none
  | .lst ds, .int i => match ixD ds.length i with | some j => ds[j]? | none => none
  | .scr ns, .int i => match ixD ns.length i with | some j => (match ns[j]? with | some n => some (.int n) | none => none) | none => none
  | .str s, .int i => match ixD s.length i with | some j => (match s[j]? with | some c => if s.length ≤ szl then some (.str [c]) else none | none => none) | none => none
  | _, _ => none

/-- where a slice's end lies: n how many, d where it is left out -/
def sEnd (n d : Nat) : Option Int → Nat
  | none => d
  | some i => if i < 0 then (i + n).toNat else min i.toNat n
def cutL {α : Type} (xs : List α) (lo hi : Option Int) : List α := (xs.drop (sEnd xs.length 0 lo)).take (sEnd xs.length xs.length hi - sEnd xs.length 0 lo)
def partOf : E → D → Option (Option Int)
  | .nope, _ => some none
  | _, .int i => some (some i)
  | _, _ => none
def slcD : D → Option Int → Option Int → Option (Kd × D)
  | .tup ds, lo, hi => some (.v, .tup (cutL ds lo hi))
  | .lst ds, lo, hi => some (.f, .lst (cutL ds lo hi))
  | .str s, lo, hi => if s.length ≤ szl then some (.v, .str (cutL s lo hi)) else none
  | _, _, _ => none

def isScr : D → Bool
  | .scr _ => true
  | _ => false
def isStrD : D → Bool
  | .str _ => true
  | _ => false
def isiD (d : D) (t : Ty) : Bool :=
  match d, t with
  | .int _, .tint => true
  | .bl _, .tint => true
  | .bl _, .tbool => true
  | .str _, .tstr => true
  | .lst _, .tlist => true
  | .tup _, .ttuple => true
  | _, _ => false

/-- the digits of a number -/
def digs (n : Nat) : List Nat := (Nat.toDigits 10 n).map Char.toNat

def allBl : List D → Option (List Bool)
  | [] => some []
  | .bl b :: ds => match allBl ds with | some bs => some (b :: bs) | none => none
  | _ :: _ => none
def allStr : List D → Option (List (List Nat))
  | [] => some []
  | .str b :: ds => match allStr ds with | some bs => some (b :: bs) | none => none
  | _ :: _ => none

def bltD : Blt → List D → Option D
  | .len, [.str s] => if s.length ≤ szl then some (.int s.length) else none
  | .len, [.tup s] => some (.int s.length)
  | .len, [.lst s] => some (.int s.length)
  | .len, [.scr s] => some (.int s.length)
  | .int1, [.int i] => some (.int i)
  | .int1, [.bl b] => some (.int (b2z b))
  | .str1, [.int i] => if 0 ≤ i ∧ i < 1000000000000000000000000000000 then some (.str (digs i.toNat)) else none
  | .any1, [.lst ds] => match allBl ds with | some bs => some (.bl (bs.any id)) | none => none
  | .tuple1, [.tup ds] => some (.tup ds)
  | .tuple1, [.lst ds] => some (.tup ds)
  | _, _ => none

/-- replacing: how many signs of a hit are still to be passed, the rest -/
def replS (y z : List Nat) : Nat → List Nat → List Nat
  | _, [] => []
  | 0, c :: r => if (c :: r).take y.length == y then z ++ replS y z (y.length - 1) r else c :: replS y z 0 r
  | k + 1, _ :: r => replS y z k r
/-- splitting -/
def splS (y : List Nat) : Nat → List Nat → List Nat → List (List Nat)
  | _, acc, [] => [acc]
  | 0, acc, c :: r => if (c :: r).take y.length == y then acc :: splS y (y.length - 1) [] r else splS y 0 (acc ++ [c]) r
  | k + 1, acc, _ :: r => splS y k acc r
/-- joining -/
def joinS (y : List Nat) : List (List Nat) → List Nat
  | [] => []
  | [x] => x
  | x :: r => x ++ y ++ joinS y r
def sumLen : List (List Nat) → Nat
  | [] => 0
  | x :: r => x.length + sumLen r

def mthD : Mth → D → List D → Option (Kd × D)
  | .replace, .str x, [.str y, .str z] => if 1 ≤ y.length ∧ x.length + (x.length + 1) * z.length ≤ szl then some (.v, .str (replS y z 0 x)) else none
  | .split, .str x, [.str y] => if 1 ≤ y.length ∧ x.length + 2 ≤ szl ∧ y.all (· < 256) = true then some (.f, .lst ((splS y 0 [] x).map .str)) else none
  | .join, .str y, [.lst ds] => match allStr ds with | some xs => if sumLen xs + y.length * xs.length ≤ 1000000 then some (.v, .str (joinS y xs)) else none | none => none
  | .join, .str y, [.tup ds] => match allStr ds with | some xs => if sumLen xs + y.length * xs.length ≤ 1000000 then some (.v, .str (joinS y xs)) else none | none => none
  | .find, .str x, [.str y] => match findS y 0 x with | some k => some (.v, .int k) | none => some (.v, .int (-1))
  | _, _, _ => none

def rngL (lo : Int) : Nat → List D
  | 0 => []
  | n + 1 => .int lo :: rngL (lo + 1) n

def z62 (i : Int) : Bool := decide (-4611686018427387904 ≤ i) && decide (i < 4611686018427387904)

/-- what a for or a comprehension walks -/
def itemsOf : Itk → List D → Option (List D)
  | .seq, [.lst ds] => some ds
  | .seq, [.tup ds] => some ds
  | .seq, [.str s] => some (s.map fun c => .str [c])
  | .rng1, [.int j] => if z62 j then some (rngL 0 j.toNat) else none
  | .rng2, [.int i, .int j] => if z62 i && z62 j then some (rngL i (j - i).toNat) else none
  | _, _ => none

def setTg : Tg → D → List Slot → Option (List Slot)
  | .one i, d, ρ => some (ρ.set i (.val d))
  | .tup is, .tup ds, ρ => if ds.length = is.length then some (List.foldl (fun (r : List Slot) (p : Nat × D) => r.set p.1 (.val p.2)) ρ (is.zip ds)) else none
  | .tup _, _, _ => none

def wipeS (ρ : List Slot) : List Nat → List Slot
  | [] => ρ
  | v :: vs => (wipeS ρ vs).set v .none

/-! ### expressions -/

abbrev RK := R (Kd × D)
abbrev Cl := Nat → List D → R (Kd × D × List D)

def okV (o : Option D) : RK := match o with | some d => .ok (.v, d) | none => .stuck
def okK (o : Option (Kd × D)) : RK := match o with | some d => .ok d | none => .stuck

/-- the value of a name: a list that it owns, as such -/
def getV (ρ : List Slot) (i : Nat) : RK :=
  match ρ[i]? with
  | some (.val d) => .ok (.v, d)
  | some (.own d) => .ok (.b, d)
  | some (.lck d) => .ok (.b, d)
  | _ => .stuck

/-- a truth -/
def truthR (r : RK) : R Bool :=
  r.bind fun p => match truthD p.2 with | some b => .ok b | none => .stuck

/-- of values that are to stand within another -/
def solid : List (Kd × D) → Option (List D)
  | [] => some []
  | (.b, _) :: _ => none
  | (_, d) :: r => match solid r with | some ds => some (d :: ds) | none => none
def starL (star : Bool) (p : Kd × D) : Option (List (Kd × D)) :=
  match star, p with
  | false, p => some [p]
  | true, (_, .tup ds) => some (ds.map fun d => (Kd.v, d))
  | true, (_, .lst ds) => some (ds.map fun d => (Kd.v, d))
  | true, _ => none

/-- what a call gives, where lists that are owned were handed in -/
def afterCall (anyB : Bool) (p : Kd × D × List D) : RK :=
  match p with
  | (.b, _, _) => .stuck
  | (k, d, []) => if anyB then (match k with | .v => if lf d then .ok (k, d) else .stuck | _ => if lf1 d then .ok (k, d) else .stuck) else .ok (k, d)
  | _ => .stuck
def hasB (ps : List (Kd × D)) : Bool := ps.any fun p => p.1 == .b

/-- the turns of a comprehension -/
def lcGo (step : D → R (Option D)) : List D → R (List D)
  | [] => .ok []
  | d :: ds => (step d).bind fun o => (lcGo step ds).bind fun r => match o with | some x => .ok (x :: r) | none => .ok r

mutual
def evE (cl : Cl) : E → List Slot → RK
  | .var i, ρ => getV ρ i
  | .cst d, _ => .ok (.v, d)
  | .nope, _ => .ok (.v, .non)
  | .bin o a b, ρ => (evE cl a ρ).bind fun p => (evE cl b ρ).bind fun q => okK (binD o p.2 q.2)
  | .neg a, ρ => (evE cl a ρ).bind fun p => match p.2 with | .int i => .ok (.v, .int (-i)) | _ => .stuck
  | .cmp o a b, ρ => (evE cl a ρ).bind fun p => (evE cl b ρ).bind fun q => match cmpD o p.2 q.2 with | some r => .ok (.v, .bl r) | none => .stuck
  | .chn o o' a b c, ρ => (evE cl a ρ).bind fun p => (evE cl b ρ).bind fun q => match cmpD o p.2 q.2 with
      | some true => (evE cl c ρ).bind fun r => (match cmpD o' q.2 r.2 with | some t => .ok (.v, .bl t) | none => .stuck)
      | some false => .ok (.v, .bl false)
      | none => .stuck
  | .and a b, ρ => (evE cl a ρ).bind fun p => match truthD p.2 with | some true => evE cl b ρ | some false => .ok p | none => .stuck
  | .or a b, ρ => (evE cl a ρ).bind fun p => match truthD p.2 with | some true => .ok p | some false => evE cl b ρ | none => .stuck
  | .not a, ρ => (evE cl a ρ).bind fun p => match truthD p.2 with | some b => .ok (.v, .bl (!b)) | none => .stuck
  | .ite c a b, ρ => (evE cl c ρ).bind fun p => match truthD p.2 with | some true => evE cl a ρ | some false => evE cl b ρ | none => .stuck
  | .tup es, ρ => (evEs cl es ρ).bind fun ps => match solid ps with | some ds => if ds.length ≤ szl then .ok (.v, .tup ds) else .stuck | none => .stuck
  | .lst es, ρ => (evEs cl es ρ).bind fun ps => match solid ps with | some ds => if ds.length ≤ szl then .ok (.f, .lst ds) else .stuck | none => .stuck
  | .idx a i, ρ => (evE cl a ρ).bind fun p => (evE cl i ρ).bind fun q => okV (idxD p.2 q.2)
  | .slc a lo hi, ρ => (evE cl a ρ).bind fun p => (evE cl lo ρ).bind fun q => match partOf lo q.2 with
      | some l => (evE cl hi ρ).bind fun r => (match partOf hi r.2 with
          | some h => okK (slcD p.2 l h)
          | none => .stuck)
      | none => .stuck
  | .call f es, ρ => (evEs cl es ρ).bind fun ps => (cl f (ps.map (·.2))).bind fun r => afterCall (hasB ps) r
  | .blt o es, ρ => (evEs cl es ρ).bind fun ps => okV (bltD o (ps.map (·.2)))
  | .isi a ts, ρ => (evE cl a ρ).bind fun p => if isScr p.2 then .stuck else .ok (.v, .bl (ts.any fun t => isiD p.2 t))
  | .mth m a es, ρ => (evE cl a ρ).bind fun p => if isStrD p.2 then (evEs cl es ρ).bind fun ps => okK (mthD m p.2 (ps.map (·.2))) else .stuck
  | .cmpr own tg k it cond elt, ρ => (evEs cl it ρ).bind fun ps => match itemsOf k (ps.map (·.2)) with
      | some ds => (lcGo (fun d => match setTg tg d (wipeS ρ own) with
          | some ρ' => (truthR (evE cl cond ρ')).bind fun b => if b then ((evE cl elt ρ').bind fun p => match p.1 with | .b => .stuck | _ => .ok (some p.2)) else .ok none
          | none => .stuck) ds).quiet.bind fun r => if ds.length ≤ szl then .ok (.f, .lst r) else .stuck
      | none => .stuck
def evEs (cl : Cl) : Es → List Slot → R (List (Kd × D))
  | .nil, _ => .ok []
  | .cons star e r, ρ => (evE cl e ρ).bind fun p => match starL star p with | some here => (evEs cl r ρ).bind fun ps => .ok (here ++ ps) | none => .stuck
end

/-! ### statements -/

inductive Out where
  | nx (ρ : List Slot)
  | rt (k : Kd) (d : D) (ρ : List Slot)
  | bk (ρ : List Slot)
  | ct (ρ : List Slot)
  | exn (x : Nat) (a : D)
  | stuck
  deriving Inhabited

def Out.of {α : Type} (r : R α) (k : α → Out) : Out :=
  match r with
  | .ok a => k a
  | .exn x a => .exn x a
  | .stuck => .stuck

def evM (cl : Cl) : M → List Slot → R ((Kd × D) × List Slot)
  | .e a, ρ => (evE cl a ρ).bind fun p => .ok (p, ρ)
  | .pop i, ρ => match ρ[i]? with
      | some (.own (.lst ds)) => match ds.getLast? with
          | some d => .ok ((.v, d), ρ.set i (.own (.lst ds.dropLast)))
          | none => .stuck
      | _ => .stuck
  | .call1 f m, ρ => (evM cl m ρ).bind fun q => match q.1.1 with
      | .v => (cl f [q.1.2]).bind fun r => (afterCall false r).bind fun p => .ok (p, q.2)
      | _ => .stuck
  | .tup3 a m c, ρ => (evE cl a ρ).bind fun p => match p.1 with
      | .v => (evM cl m ρ).bind fun q => (match q.1.1 with
          | .v => (evE cl c q.2).bind fun r => (match r.1 with
              | .v => .ok ((.v, .tup [p.2, q.1.2, r.2]), q.2)
              | _ => .stuck)
          | _ => .stuck)
      | _ => .stuck

/-- the value is to be kept: a list that a name owns is given up by that name -/
def sinkE (a : E) (p : Kd × D) (ρ : List Slot) : Option (Kd × D × List Slot) :=
  match p with
  | (.v, d) => some (.v, d, ρ)
  | (.f, d) => some (.f, d, ρ)
  | (.b, _) => match a with
      | .var j => (match ρ[j]? with
          | some (.own d) => some (.v, d, ρ.set j (.val d))
          | _ => none)
      | _ => none
def sinkM (m : M) (p : Kd × D) (ρ : List Slot) : Option (Kd × D × List Slot) :=
  match m with
  | .e a => sinkE a p ρ
  | _ => match p with
      | (.b, _) => none
      | (k, d) => some (k, d, ρ)

def bindTg (tg : Tg) (k : Kd) (d : D) (ρ : List Slot) : Option (List Slot) :=
  match tg, k with
  | .one i, .f => some (ρ.set i (.own d))
  | tg, _ => setTg tg d ρ

def getOwn (ρ : List Slot) (i : Nat) : Option (List D) :=
  match ρ[i]? with
  | some (.own (.lst ds)) => some ds
  | _ => none

def getOwns (ρ : List Slot) : List Nat → Option (List D)
  | [] => some []
  | i :: is => match getOwn ρ i, getOwns ρ is with
      | some ds, some r => some (.lst ds :: r)
      | _, _ => none
def setOwns (ρ : List Slot) : List Nat → List D → List Slot
  | i :: is, d :: ds => setOwns (ρ.set i (.own d)) is ds
  | _, _ => ρ

def listOf : D → Option (List D)
  | .lst ds => some ds
  | .tup ds => some ds
  | _ => none

/-- the name whose list a for walks: none where it is locked already -/
def lockOf (k : Itk) (it : Es) (ρ : List Slot) : Option (Option (Nat × D)) :=
  match k, it with
  | .seq, .cons false (.var j) .nil => match ρ[j]? with
      | some (.own d) => some (some (j, d))
      | some (.lck _) => some none
      | _ => none
  | _, _ => none
def unlock (l : Option (Nat × D)) (ρ : List Slot) : List Slot :=
  match l with
  | some (j, _) => match ρ[j]? with
      | some (.lck d) => ρ.set j (.own d)
      | _ => ρ
  | none => ρ
def lockIt (l : Option (Nat × D)) (ρ : List Slot) : List Slot :=
  match l with
  | some (j, d) => ρ.set j (.lck d)
  | none => ρ

def forGo (step : D → List Slot → Out) : List D → List Slot → Out
  | [], ρ => .nx ρ
  | d :: ds, ρ => match step d ρ with
      | .nx ρ' => forGo step ds ρ'
      | .ct ρ' => forGo step ds ρ'
      | .bk ρ' => .bk ρ'
      | o => o
def unlockO (l : Option (Nat × D)) : Out → Out
  | .nx ρ => .nx (unlock l ρ)
  | .bk ρ => .nx (unlock l ρ)
  | .ct _ => .stuck
  | .rt k d ρ => .rt k d (unlock l ρ)
  | o => o

def whlGo (c : List Slot → R Bool) (step : List Slot → Out) : Nat → List Slot → Out
  | 0, _ => .stuck
  | n + 1, ρ => .of (c ρ) fun b => if b then (match step ρ with
      | .nx ρ' => whlGo c step n ρ'
      | .ct ρ' => whlGo c step n ρ'
      | .bk ρ' => .nx ρ'
      | o => o) else .nx ρ
/-- as many turns a while is let -/
def wfuel : Nat := 1000000000

mutual
def evS (cl : Cl) : S → List Slot → Out
  | .pass, ρ => .nx ρ
  | .asg tg a, ρ => .of (evE cl a ρ) fun p => match sinkE a p ρ with
      | some (k, d, ρ') => (match bindTg tg k d ρ' with | some ρ'' => .nx ρ'' | none => .stuck)
      | none => .stuck
  | .asgM i m, ρ => .of (evM cl m ρ) fun q => match sinkM m q.1 q.2 with
      | some (k, d, ρ') => (match bindTg (.one i) k d ρ' with | some ρ'' => .nx ρ'' | none => .stuck)
      | none => .stuck
  | .aug i o a, ρ => match ρ[i]? with
      | some (.val x) => .of (evE cl a ρ) fun p => (match augD o x p.2 with | some d => .nx (ρ.set i (.val d)) | none => .stuck)
      | _ => .stuck
  | .expr a, ρ => .of (evE cl a ρ) fun _ => .nx ρ
  | .app i m, ρ => if (getOwn ρ i).isSome then .of (evM cl m ρ) fun q => (match sinkM m q.1 q.2 with
      | some (_, d, ρ') => (match getOwn ρ' i with | some ds => if ds.length < szl then .nx (ρ'.set i (.own (.lst (ds ++ [d])))) else .stuck | none => .stuck)
      | none => .stuck) else .stuck
  | .ext i a, ρ => match getOwn ρ i with
      | some ds => .of (evE cl a ρ) fun p => (match listOf p.2 with
          | some es => if ds.length + es.length ≤ szl then .nx (ρ.set i (.own (.lst (ds ++ es)))) else .stuck
          | none => .stuck)
      | none => .stuck
  | .popS i, ρ => .of (evM cl (.pop i) ρ) fun q => .nx q.2
  | .io f is es, ρ => if is.Nodup then (match getOwns ρ is with
      | some os => .of (evEs cl es ρ) fun ps => (match solid ps with
          | some ds => .of (cl f (os ++ ds)) fun r => if r.2.2.length = is.length then .nx (setOwns ρ is r.2.2) else .stuck
          | none => .stuck)
      | none => .stuck) else .stuck
  | .ifS c a b, ρ => .of (truthR (evE cl c ρ)) fun t => if t then evSs cl a ρ else evSs cl b ρ
  | .whl c a, ρ => whlGo (fun ρ => truthR (evE cl c ρ)) (fun ρ => evSs cl a ρ) wfuel ρ
  | .forS tg k it a, ρ => .of (evEs cl it ρ) fun ps => match itemsOf k (ps.map (·.2)) with
      | some ds => (match (if hasB ps then lockOf k it ρ else some none) with
          | some l => unlockO l (forGo (fun d ρ => match setTg tg d ρ with | some ρ' => evSs cl a ρ' | none => .stuck) ds (lockIt l ρ))
          | none => .stuck)
      | none => .stuck
  | .ret a, ρ => .of (evE cl a ρ) fun p => match p with
      | (.b, d) => (match a with | .var _ => .rt .f d ρ | _ => .stuck)
      | (k, d) => .rt k d ρ
  | .retN, ρ => .rt .v .non ρ
  | .brk, ρ => .bk ρ
  | .cnt, ρ => .ct ρ
  | .rais x a, ρ => .of (evE cl a ρ) fun p => if lf p.2 then .exn x p.2 else .stuck
  | .tryAt x i a, ρ => if ρ.length ≤ i then .stuck else match evE cl a ρ with
      | .ok (.b, _) => .stuck
      | .ok (k, d) => .rt k d ρ
      | .exn y d => if y = x then .rt .v d ρ else .exn y d
      | .stuck => .stuck
def evSs (cl : Cl) : Ss → List Slot → Out
  | .nil, ρ => .nx ρ
  | .cons s r, ρ => match evS cl s ρ with
      | .nx ρ' => evSs cl r ρ'
      | o => o
end

/-! ### defs -/
structure Fn where
  np : Nat
  nio : Nat
  ns : Nat
  body : Ss

def startF (fn : Fn) (ds : List D) : List Slot :=
  (ds.take fn.nio).map .own ++ (ds.drop fn.nio).map .val ++ List.replicate (fn.ns - ds.length) .none
def outsOf : Nat → List Slot → Option (List D)
  | 0, _ => some []
  | n + 1, .own d :: ρ => match outsOf n ρ with | some r => some (d :: r) | none => none
  | _, _ => none
def finish (fn : Fn) : Out → R (Kd × D × List D)
  | .nx ρ => match outsOf fn.nio ρ with | some os => .ok (.v, .non, os) | none => .stuck
  | .rt k d ρ => if fn.nio = 0 then .ok (k, d, []) else if lf d then (match outsOf fn.nio ρ with | some os => .ok (.v, d, os) | none => .stuck) else .stuck
  | .exn x a => .exn x a
  | _ => .stuck
abbrev Prog := Nat → Option Fn
def callF (pr : Prog) : Nat → Cl
  | 0, _, _ => .stuck
  | k + 1, f, ds => match pr f with
      | some fn => if ds.length = fn.np then finish fn (evSs (callF pr k) fn.body (startF fn ds)) else .stuck
      | none => .stuck

end Ev
end

section
set_option Elab.async false
set_option linter.all false
set_option maxRecDepth 100000
/-! Ev1a: how data stand in the heap; what an expression's reading is. -/
namespace Ev
open PySem PySem.Spec PyProof.Rows L2

abbrev toS (l : List Nat) : Str := ⟨l.toArray⟩
theorem toS_tl (x : Str) : toS x.cps.toList = x := by cases x; rfl
theorem toS_len (l : List Nat) : (toS l).length = l.length := by simp [Str.length]

/-- signs -/
abbrev okS (s : List Nat) : Prop := ∀ c ∈ s, c < 1114112

/-- addresses that may change -/
abbrev Fb := Addr → Prop
def Fb.add (F : Fb) (a : Addr) : Fb := fun b => F b ∨ b = a

/-- the script: a list that nobody changes -/
def ScrAt (K : PySem.W.Frag) (H : Hp) (a : Addr) (ns : List Int) : Prop := (∃ o, H a = some (.frz o (.lst (ns.map V.int)))) ∨
  ∃ (o : Obj) (its : Array Value) (n : Nat), K.lookup a = some o ∧ o.cls = .type "list" ∧ o.dict = none ∧ o.data = .seq its n ∧ its.size ≤ sizeLine ∧ Vals (ns.map V.int) its.toList
mutual
inductive RepV (K : PySem.W.Frag) (H : Hp) (F : Fb) : D → V → Prop
  | non : RepV K H F .non .non
  | bl (b : Bool) : RepV K H F (.bl b) (.bl b)
  | int (i : Int) : RepV K H F (.int i) (.int i)
  | str (s : List Nat) : okS s → RepV K H F (.str s) (.str (toS s))
  | tup {a : Addr} {vs : List V} {ds : List D} : SqT K H a vs → RepVs K H F ds vs → RepV K H F (.tup ds) (.ref a)
  | lst {a : Addr} {vs : List V} {ds : List D} : H a = some (.lst vs) → ¬ F a → RepVs K H F ds vs → RepV K H F (.lst ds) (.ref a)
  | scr {a : Addr} {ns : List Int} : ScrAt K H a ns → RepV K H F (.scr ns) (.ref a)
inductive RepVs (K : PySem.W.Frag) (H : Hp) (F : Fb) : List D → List V → Prop
  | nil : RepVs K H F [] []
  | cons {d : D} {ds : List D} {v : V} {vs : List V} : RepV K H F d v → RepVs K H F ds vs → RepVs K H F (d :: ds) (v :: vs)
end

/-- what stood and may not change stands -/
def Keep (Own : List Addr) (H H' : Hp) : Prop := ∀ a o, H a = some o → a ∉ Own → H' a = some o

section
variable {K : PySem.W.Frag} {H H' : Hp} {F F' : Fb}
theorem SqT.same {a : Addr} {xs : List V} (s : ∀ o, H a = some o → (∃ ys, o = .tup ys) ∨ (∃ ob u, o = .frz ob u) → H' a = some o) (h : SqT K H a xs) : SqT K H' a xs := by
  rcases h with (h | ⟨o, h⟩) | h
  · exact .inl (.inl (s _ h (.inl ⟨_, rfl⟩)))
  · exact .inl (.inr ⟨o, s _ h (.inr ⟨_, _, rfl⟩)⟩)
  · exact .inr h
mutual
theorem RepV.move (t : ∀ a o, H a = some o → ((∃ ys, o = .tup ys) ∨ ∃ ob u, o = .frz ob u) → H' a = some o) (l : ∀ a o, H a = some o → ¬ F a → H' a = some o ∧ ¬ F' a) : ∀ {d : D} {v : V}, RepV K H F d v → RepV K H' F' d v
  | _, _, .non => .non
  | _, _, .bl b => .bl b
  | _, _, .int i => .int i
  | _, _, .str s q => .str s q
  | _, _, .tup h r => .tup (SqT.same (t _) h) (RepVs.move t l r)
  | _, _, .lst h n r => .lst (l _ _ h n).1 (l _ _ h n).2 (RepVs.move t l r)
  | _, _, .scr h => .scr (h.imp (fun ⟨o, e⟩ => ⟨o, t _ _ e (.inr ⟨_, _, rfl⟩)⟩) id)
theorem RepVs.move (t : ∀ a o, H a = some o → ((∃ ys, o = .tup ys) ∨ ∃ ob u, o = .frz ob u) → H' a = some o) (l : ∀ a o, H a = some o → ¬ F a → H' a = some o ∧ ¬ F' a) : ∀ {ds : List D} {vs : List V}, RepVs K H F ds vs → RepVs K H' F' ds vs
  | _, _, .nil => .nil
  | _, _, .cons h r => .cons (RepV.move t l h) (RepVs.move t l r)
end
theorem RepV.same (s : Same H H') {d : D} {v : V} (r : RepV K H F d v) : RepV K H' F d v := r.move (fun a o h _ => s a o h) fun a o h n => ⟨s a o h, n⟩
theorem RepVs.same (s : Same H H') {d : List D} {v : List V} (r : RepVs K H F d v) : RepVs K H' F d v := r.move (fun a o h _ => s a o h) fun a o h n => ⟨s a o h, n⟩
/-- one that is new may change -/
theorem RepV.add (s : Same H H') {a : Addr} (n : H a = none) {d : D} {v : V} (r : RepV K H F d v) : RepV K H' (F.add a) d v :=
  r.move (fun a o h _ => s a o h) fun b o h nb => ⟨s b o h, fun q => q.elim nb fun e => by subst e; rw [n] at h; cases h⟩
theorem RepVs.add (s : Same H H') {a : Addr} (n : H a = none) {d : List D} {v : List V} (r : RepVs K H F d v) : RepVs K H' (F.add a) d v :=
  r.move (fun a o h _ => s a o h) fun b o h nb => ⟨s b o h, fun q => q.elim nb fun e => by subst e; rw [n] at h; cases h⟩
theorem RepV.less (f : ∀ a, F' a → F a) {d : D} {v : V} (r : RepV K H F d v) : RepV K H F' d v := r.move (fun a o h _ => h) fun a o h n => ⟨h, fun q => n (f a q)⟩
theorem RepVs.less (f : ∀ a, F' a → F a) {d : List D} {v : List V} (r : RepVs K H F d v) : RepVs K H F' d v := r.move (fun a o h _ => h) fun a o h n => ⟨h, fun q => n (f a q)⟩
mutual
/-- without lists nothing hangs on what may change -/
theorem RepV.free : ∀ {d : D} {v : V}, RepV K H F d v → lf d = true → RepV K H F' d v
  | _, _, .non, _ => .non
  | _, _, .bl b, _ => .bl b
  | _, _, .int i, _ => .int i
  | _, _, .str s q, _ => .str s q
  | _, _, .tup h r, q => .tup h (RepVs.free r (by simpa [lf] using q))
  | _, _, .lst h n r, q => by simp [lf] at q
  | _, _, .scr h, _ => .scr h
theorem RepVs.free : ∀ {d : List D} {v : List V}, RepVs K H F d v → lfs d = true → RepVs K H F' d v
  | _, _, .nil, _ => .nil
  | _, _, .cons h r, q => by
    simp only [lfs, Bool.and_eq_true] at q
    exact .cons (RepV.free h q.1) (RepVs.free r q.2)
end
theorem RepVs.length : ∀ {ds : List D} {vs : List V}, RepVs K H F ds vs → ds.length = vs.length
  | _, _, .nil => rfl
  | _, _, .cons _ r => congrArg (· + 1) (RepVs.length r)
theorem RepVs.get : ∀ {ds : List D} {vs : List V} {i : Nat} {d : D}, RepVs K H F ds vs → ds[i]? = some d → ∃ v, vs[i]? = some v ∧ RepV K H F d v
  | _, _, _, _, .nil, e => by simp at e
  | _, _, 0, _, .cons h _, e => by simp at e; subst e; exact ⟨_, rfl, h⟩
  | _, _, i + 1, _, .cons _ r, e => RepVs.get (i := i) r (by simpa using e)
theorem RepVs.get' : ∀ {ds : List D} {vs : List V} {i : Nat} {v : V}, RepVs K H F ds vs → vs[i]? = some v → ∃ d, ds[i]? = some d ∧ RepV K H F d v
  | _, _, _, _, .nil, e => by simp at e
  | _, _, 0, _, .cons h _, e => by simp at e; subst e; exact ⟨_, rfl, h⟩
  | _, _, i + 1, _, .cons _ r, e => RepVs.get' (i := i) r (by simpa using e)
theorem RepVs.append : ∀ {ds es : List D} {vs ws : List V}, RepVs K H F ds vs → RepVs K H F es ws → RepVs K H F (ds ++ es) (vs ++ ws)
  | _, _, _, _, .nil, s => s
  | _, _, _, _, .cons h r, s => .cons h (RepVs.append r s)
theorem RepVs.take : ∀ {ds : List D} {vs : List V} (n : Nat), RepVs K H F ds vs → RepVs K H F (ds.take n) (vs.take n)
  | _, _, 0, _ => by simpa using RepVs.nil
  | _, _, _ + 1, .nil => .nil
  | _, _, n + 1, .cons h r => .cons h (RepVs.take n r)
theorem RepVs.drop : ∀ {ds : List D} {vs : List V} (n : Nat), RepVs K H F ds vs → RepVs K H F (ds.drop n) (vs.drop n)
  | _, _, 0, r => r
  | _, _, _ + 1, .nil => .nil
  | _, _, n + 1, .cons h r => RepVs.drop n r
theorem RepVs.rep {ds : List D} {vs : List V} (h : RepVs K H F ds vs) : ∀ n : Nat, RepVs K H F (repD n ds) (List.replicate n vs).flatten
  | 0 => .nil
  | n + 1 => by
    have e : repD (n + 1) ds = ds ++ repD n ds := by simp [repD, List.replicate_succ]
    rw [e, List.replicate_succ, List.flatten_cons]
    exact h.append (RepVs.rep h n)
end

/-! ### the names' values -/
inductive EnvR (K : PySem.W.Frag) (H : Hp) (F : Fb) : List Slot → List (Option V) → List Addr → Prop
  | nil : EnvR K H F [] [] []
  | emp {x : Option V} {ρ : List Slot} {σ : List (Option V)} {os : List Addr} : EnvR K H F ρ σ os → EnvR K H F (.none :: ρ) (x :: σ) os
  | val {d : D} {v : V} {ρ : List Slot} {σ : List (Option V)} {os : List Addr} : RepV K H F d v → EnvR K H F ρ σ os → EnvR K H F (.val d :: ρ) (some v :: σ) os
  | own {a : Addr} {vs : List V} {ds : List D} {ρ : List Slot} {σ : List (Option V)} {os : List Addr} : H a = some (.lst vs) → RepVs K H F ds vs → EnvR K H F ρ σ os → EnvR K H F (.own (.lst ds) :: ρ) (some (.ref a) :: σ) (a :: os)
  | lck {a : Addr} {vs : List V} {ds : List D} {ρ : List Slot} {σ : List (Option V)} {os : List Addr} : H a = some (.lst vs) → RepVs K H F ds vs → EnvR K H F ρ σ os → EnvR K H F (.lck (.lst ds) :: ρ) (some (.ref a) :: σ) (a :: os)

section
variable {K : PySem.W.Frag} {H H' : Hp} {F F' : Fb}
theorem EnvR.move (t : ∀ a o, H a = some o → ((∃ ys, o = .tup ys) ∨ ∃ ob u, o = .frz ob u) → H' a = some o) (l : ∀ a o, H a = some o → ¬ F a → H' a = some o ∧ ¬ F' a) :
    ∀ {ρ : List Slot} {σ : List (Option V)} {os : List Addr}, (∀ a ∈ os, ∀ o, H a = some o → H' a = some o) → EnvR K H F ρ σ os → EnvR K H' F' ρ σ os
  | _, _, _, _, .nil => .nil
  | _, _, _, w, .emp r => .emp (EnvR.move t l w r)
  | _, _, _, w, .val h r => .val (h.move t l) (EnvR.move t l w r)
  | _, _, _, w, .own h q r => .own (w _ List.mem_cons_self _ h) (q.move t l) (EnvR.move t l (fun a ha => w a (List.mem_cons_of_mem _ ha)) r)
  | _, _, _, w, .lck h q r => .lck (w _ List.mem_cons_self _ h) (q.move t l) (EnvR.move t l (fun a ha => w a (List.mem_cons_of_mem _ ha)) r)
theorem EnvR.same (s : Same H H') {ρ : List Slot} {σ : List (Option V)} {os : List Addr} (r : EnvR K H F ρ σ os) : EnvR K H' F ρ σ os :=
  r.move (fun a o h _ => s a o h) (fun a o h n => ⟨s a o h, n⟩) fun a _ o h => s a o h
theorem EnvR.add (s : Same H H') {a : Addr} (n : H a = none) {ρ : List Slot} {σ : List (Option V)} {os : List Addr} (r : EnvR K H F ρ σ os) : EnvR K H' (F.add a) ρ σ os :=
  r.move (fun a o h _ => s a o h) (fun b o h nb => ⟨s b o h, fun q => q.elim nb fun e => by subst e; rw [n] at h; cases h⟩) fun a _ o h => s a o h
theorem EnvR.length : ∀ {ρ : List Slot} {σ : List (Option V)} {os : List Addr}, EnvR K H F ρ σ os → ρ.length = σ.length
  | _, _, _, .nil => rfl
  | _, _, _, .emp r => congrArg (· + 1) (EnvR.length r)
  | _, _, _, .val _ r => congrArg (· + 1) (EnvR.length r)
  | _, _, _, .own _ _ r => congrArg (· + 1) (EnvR.length r)
  | _, _, _, .lck _ _ r => congrArg (· + 1) (EnvR.length r)
theorem EnvR.isL : ∀ {ρ : List Slot} {σ : List (Option V)} {os : List Addr}, EnvR K H F ρ σ os → ∀ a ∈ os, ∃ vs, H a = some (.lst vs)
  | _, _, _, .nil, _, h => by cases h
  | _, _, _, .emp r, a, h => EnvR.isL r a h
  | _, _, _, .val _ r, a, h => EnvR.isL r a h
  | _, _, _, .own e _ r, a, h => by
    rcases List.mem_cons.mp h with rfl | h
    · exact ⟨_, e⟩
    · exact EnvR.isL r a h
  | _, _, _, .lck e _ r, a, h => by
    rcases List.mem_cons.mp h with rfl | h
    · exact ⟨_, e⟩
    · exact EnvR.isL r a h
theorem EnvR.getVal : ∀ {ρ : List Slot} {σ : List (Option V)} {os : List Addr} {i : Nat} {d : D}, EnvR K H F ρ σ os → ρ[i]? = some (.val d) → ∃ v, σ[i]? = some (some v) ∧ RepV K H F d v
  | _, _, _, _, _, .nil, e => by simp at e
  | _, _, _, 0, _, .emp _, e => by simp at e
  | _, _, _, 0, _, .val h _, e => by simp at e; subst e; exact ⟨_, rfl, h⟩
  | _, _, _, 0, _, .own _ _ _, e => by simp at e
  | _, _, _, 0, _, .lck _ _ _, e => by simp at e
  | _, _, _, i + 1, _, .emp r, e => EnvR.getVal (i := i) r (by simpa using e)
  | _, _, _, i + 1, _, .val _ r, e => EnvR.getVal (i := i) r (by simpa using e)
  | _, _, _, i + 1, _, .own _ _ r, e => EnvR.getVal (i := i) r (by simpa using e)
  | _, _, _, i + 1, _, .lck _ _ r, e => EnvR.getVal (i := i) r (by simpa using e)
theorem EnvR.getOwn : ∀ {ρ : List Slot} {σ : List (Option V)} {os : List Addr} {i : Nat} {d : D}, EnvR K H F ρ σ os → (ρ[i]? = some (.own d) ∨ ρ[i]? = some (.lck d)) → ∃ a vs ds, d = .lst ds ∧ σ[i]? = some (some (.ref a)) ∧ a ∈ os ∧ H a = some (.lst vs) ∧ RepVs K H F ds vs
  | _, _, _, _, _, .nil, e => by simp at e
  | _, _, _, 0, _, .emp _, e => by simp at e
  | _, _, _, 0, _, .val h _, e => by simp at e
  | _, _, _, 0, _, .own h q _, e => by simp at e; subst e; exact ⟨_, _, _, rfl, rfl, List.mem_cons_self, h, q⟩
  | _, _, _, 0, _, .lck h q _, e => by simp at e; subst e; exact ⟨_, _, _, rfl, rfl, List.mem_cons_self, h, q⟩
  | _, _, _, i + 1, _, .emp r, e => EnvR.getOwn (i := i) r (by simpa using e)
  | _, _, _, i + 1, _, .val _ r, e => EnvR.getOwn (i := i) r (by simpa using e)
  | _, _, _, i + 1, _, .own _ _ r, e => let ⟨a, vs, ds, h1, h2, h3, h4, h5⟩ := EnvR.getOwn (i := i) r (by simpa using e); ⟨a, vs, ds, h1, h2, List.mem_cons_of_mem _ h3, h4, h5⟩
  | _, _, _, i + 1, _, .lck _ _ r, e => let ⟨a, vs, ds, h1, h2, h3, h4, h5⟩ := EnvR.getOwn (i := i) r (by simpa using e); ⟨a, vs, ds, h1, h2, List.mem_cons_of_mem _ h3, h4, h5⟩
end

/-! ### what an expression gives -/
def Res (K : PySem.W.Frag) (H₀ H : Hp) (F : Fb) (Own : List Addr) (p : Kd × D) (v : V) : Prop :=
  match p.1 with
  | .v => RepV K H F p.2 v
  | .f => ∃ a vs ds, p.2 = .lst ds ∧ v = .ref a ∧ H₀ a = none ∧ H a = some (.lst vs) ∧ RepVs K H (F.add a) ds vs
  | .b => ∃ a vs ds, p.2 = .lst ds ∧ v = .ref a ∧ a ∈ Own ∧ H a = some (.lst vs) ∧ RepVs K H F ds vs

/-- what is needed to read it -/
def RdD (K : PySem.W.Frag) (H : Hp) (F : Fb) (d : D) (v : V) : Prop :=
  match d with
  | .lst ds => ∃ a vs, v = .ref a ∧ H a = some (.lst vs) ∧ RepVs K H F ds vs
  | d => RepV K H F d v

section
variable {K : PySem.W.Frag} {H₀ H H' : Hp} {F : Fb} {Own : List Addr}
theorem RepV.rd {d : D} {v : V} (r : RepV K H F d v) : RdD K H F d v := by
  cases r with
  | lst h n r => exact ⟨_, _, rfl, h, r⟩
  | non => exact .non
  | bl b => exact .bl b
  | int i => exact .int i
  | str s q => exact .str s q
  | tup h r => exact .tup h r
  | scr h => exact .scr h
theorem Res.rd {p : Kd × D} {v : V} (r : Res K H₀ H F Own p v) : RdD K H F p.2 v := by
  obtain ⟨k, d⟩ := p
  cases k with
  | v => exact RepV.rd r
  | f =>
    obtain ⟨a, vs, ds, e, rfl, _, h, q⟩ := r
    cases e
    exact ⟨a, vs, rfl, h, q.less fun _ z => .inl z⟩
  | b =>
    obtain ⟨a, vs, ds, e, rfl, _, h, q⟩ := r
    cases e
    exact ⟨a, vs, rfl, h, q⟩
theorem RdD.same (s : Same H H') {d : D} {v : V} (r : RdD K H F d v) : RdD K H' F d v := by
  cases d with
  | lst ds =>
    obtain ⟨a, vs, e, h, q⟩ := r
    exact ⟨a, vs, e, s _ _ h, q.same s⟩
  | non => exact RepV.same s r
  | bl b => exact RepV.same s r
  | int i => exact RepV.same s r
  | str x => exact RepV.same s r
  | tup ds => exact RepV.same s r
  | scr ns => exact RepV.same s r
theorem Res.same (s : Same H H') {p : Kd × D} {v : V} (r : Res K H₀ H F Own p v) : Res K H₀ H' F Own p v := by
  obtain ⟨k, d⟩ := p
  cases k with
  | v => exact RepV.same s r
  | f =>
    obtain ⟨a, vs, ds, e, e2, n, h, q⟩ := r
    exact ⟨a, vs, ds, e, e2, n, s _ _ h, q.same s⟩
  | b =>
    obtain ⟨a, vs, ds, e, e2, n, h, q⟩ := r
    exact ⟨a, vs, ds, e, e2, n, s _ _ h, q.same s⟩
theorem Res.ahead (s : Same H₀ H) {p : Kd × D} {v : V} (r : Res K H H' F Own p v) : Res K H₀ H' F Own p v := by
  obtain ⟨k, d⟩ := p
  cases k with
  | v => exact r
  | f =>
    obtain ⟨a, vs, ds, e, e2, n, h, q⟩ := r
    exact ⟨a, vs, ds, e, e2, s.free n, h, q⟩
  | b => exact r
/-- a value that stands within another -/
theorem Res.solid {k : Kd} {d : D} {v : V} (hk : k ≠ .b) (hF : ∀ a, F a → H₀ a ≠ none) (r : Res K H₀ H F Own (k, d) v) : RepV K H F d v := by
  cases k with
  | v => exact r
  | f =>
    obtain ⟨a, vs, ds, e, rfl, n, h, q⟩ := r
    cases e
    exact .lst h (fun z => hF a z n) (q.less fun _ z => .inl z)
  | b => exact absurd rfl hk
theorem RdD.isLst {ds : List D} {v : V} (r : RdD K H F (.lst ds) v) : ∃ a vs, v = .ref a ∧ SqL K H a vs ∧ RepVs K H F ds vs := by
  obtain ⟨a, vs, e, h, q⟩ := r
  exact ⟨a, vs, e, SqL.of h, q⟩
theorem RdD.isLst' {ds : List D} {v : V} (r : RdD K H F (.lst ds) v) : ∃ a vs, v = .ref a ∧ H a = some (.lst vs) ∧ RepVs K H F ds vs := r
theorem RdD.isScr {ns : List Int} {v : V} (r : RdD K H F (.scr ns) v) : ∃ a, v = .ref a ∧ SqL K H a (ns.map V.int) := by
  have r : RepV K H F (.scr ns) v := r
  cases r with
  | scr h => exact ⟨_, rfl, h.elim (fun ⟨o, e⟩ => .inl (.inr ⟨o, e⟩)) .inr⟩
theorem RdD.isTup {ds : List D} {v : V} (r : RdD K H F (.tup ds) v) : ∃ a vs, v = .ref a ∧ SqT K H a vs ∧ RepVs K H F ds vs := by
  have r : RepV K H F (.tup ds) v := r
  cases r with
  | tup h q => exact ⟨_, _, rfl, h, q⟩
theorem RdD.isInt {i : Int} {v : V} (r : RdD K H F (.int i) v) : v = .int i := by
  have r : RepV K H F (.int i) v := r
  cases r; rfl
theorem RdD.isBl {i : Bool} {v : V} (r : RdD K H F (.bl i) v) : v = .bl i := by
  have r : RepV K H F (.bl i) v := r
  cases r; rfl
theorem RdD.isStr {i : List Nat} {v : V} (r : RdD K H F (.str i) v) : v = .str (toS i) ∧ okS i := by
  have r : RepV K H F (.str i) v := r
  cases r with
  | str _ q => exact ⟨rfl, q⟩
theorem RdD.isNon {v : V} (r : RdD K H F .non v) : v = .non := by
  have r : RepV K H F .non v := r
  cases r; rfl
end
end Ev
end

section
set_option Elab.async false
set_option linter.all false
set_option maxRecDepth 100000
/-! Ev1b: readings of expressions: names, constants, operators, tests, displays. -/
namespace Ev
open PySem PySem.Spec PyProof.Rows L2

/-- the own errors: by number, their classes and whether they bear a number -/
abbrev Exs := Nat → Option (Addr × Bool)
/-- an error as it lies behind a raise -/
def ExR (xs : Exs) (K : PySem.W.Frag) (H : Hp) (x : Nat) (a : D) (cls : Value) (dd : Option Addr) : Prop :=
  ∃ C b, xs x = some (C, b) ∧ cls = .ref C ∧ (b = true → lf a = true ∧ ∃ dx v, dd = some dx ∧ H dx = some (.xd [(("at" : Str), v)]) ∧ RepV K H (fun _ => False) a v)

/-- behind a computation: what it gives, or its error -/
def After {α : Type} (xs : Exs) (K : PySem.W.Frag) (W : WX) (σ : L2.St) (H : Hp) (r : R α) (k : α → Prop) : Prop :=
  match r with
  | .ok a => k a
  | .exn x a => ∀ cls dd H', Same H H' → ExR xs K H' x a cls dd → W cls dd σ H'
  | .stuck => False

section
variable {xs : Exs} {K : PySem.W.Frag} {W : WX} {σ : L2.St} {H H' : Hp} {α β : Type}
theorem After.bind {r : R α} {f : α → R β} {k : β → Prop} (h : After xs K W σ H (r.bind f) k) : After xs K W σ H r fun a => After xs K W σ H (f a) k := by
  cases r with
  | ok a => exact h
  | exn x a => exact h
  | stuck => exact h
theorem After.move {r : R α} {k : α → Prop} (s : Same H H') (h : After xs K W σ H r k) : After xs K W σ H' r k := by
  cases r with
  | ok a => exact h
  | exn x a => exact fun cls dd H'' s' e => h cls dd H'' (s.trans s') e
  | stuck => exact h
theorem After.imp {r : R α} {k k' : α → Prop} (h : After xs K W σ H r k) (f : ∀ a, r = .ok a → k a → k' a) : After xs K W σ H r k' := by
  cases r with
  | ok a => exact f a rfl h
  | exn x a => exact h
  | stuck => exact h
theorem After.ok {r : R α} {k : α → Prop} (h : After xs K W σ H r k) {a : α} (e : r = .ok a) : k a := by
  subst e; exact h
end

/-- the names, as they stand ahead of an expression -/
structure StE (K : PySem.W.Frag) (H : Hp) (F : Fb) (ρ : List Slot) (σ : L2.St) (Own : List Addr) : Prop where
  env : EnvR K H F ρ σ Own
  sub : ∀ a ∈ Own, F a
  ex : ∀ a, F a → H a ≠ none
theorem StE.same {K : PySem.W.Frag} {H H' : Hp} {F : Fb} {ρ : List Slot} {σ : L2.St} {Own : List Addr} (s : Same H H') (h : StE K H F ρ σ Own) : StE K H' F ρ σ Own :=
  ⟨h.env.same s, h.sub, fun a f z => h.ex a f (s.free z)⟩

/-- a reading by a computation over the names -/
def SR (xs : Exs) (K : PySem.W.Frag) (W : WX) (g : List Slot → RK) : TE := fun σ H Q =>
  ∃ ρ F Own, StE K H F ρ σ Own ∧ After xs K W σ H (g ρ) fun p => ∀ v H', Same H H' → Res K H H' F Own p v → Q v H'
def SRs (xs : Exs) (K : PySem.W.Frag) (W : WX) (g : List Slot → R (List (Kd × D))) : TA := fun σ H Q =>
  ∃ ρ F Own, StE K H F ρ σ Own ∧ After xs K W σ H (g ρ) fun ps => ∀ vs H', Same H H' → Paired (fun p v => Res K H H' F Own p v) ps vs → Q vs H'
/-- a test's -/
def ST (xs : Exs) (K : PySem.W.Frag) (W : WX) (g : List Slot → R Bool) : TT := fun σ H Q =>
  ∃ ρ F Own, StE K H F ρ σ Own ∧ After xs K W σ H (g ρ) fun b => ∀ H', Same H H' → Q b H'

theorem peImp {X : Cx} {e : Expr} {t t' : TE} (h : PE X e t) (f : ∀ σ H Q, t' σ H Q → t σ H Q) : PE X e t' := ⟨fun pins s σ H Q I q => h.run pins s σ H Q I (f _ _ _ q)⟩
theorem ptImp {X : Cx} {e : Expr} {t t' : TT} (h : PT X e t) (f : ∀ σ H Q, t' σ H Q → t σ H Q) : PT X e t' := ⟨fun pins s σ H Q I q => h.run pins s σ H Q I (f _ _ _ q)⟩
theorem pwImp {X : Cx} {e : Expr} {t t' : TT} (h : PW X e t) (f : ∀ σ H Q, t' σ H Q → t σ H Q) : PW X e t' := ⟨fun wh pins s σ H Q I q => h.run wh pins s σ H Q I (f _ _ _ q)⟩
theorem paImp {X : Cx} {e : List Expr} {t t' : TA} (h : PA X e t) (f : ∀ σ H Q, t' σ H Q → t σ H Q) : PA X e t' := ⟨fun pos pins s σ H Q I q => h.run pos pins s σ H Q I (f _ _ _ q)⟩
theorem psImp {X : Cx} {e : Stmt} {t t' : TS} (h : PS X e t) (f : ∀ D σ H, t' D σ H → t D σ H) : PS X e t' := ⟨fun pins s σ H Q I q => h.run pins s σ H Q I (f _ _ _ q)⟩
theorem pssImp {X : Cx} {e : List Stmt} {t t' : TS} (h : PSs X e t) (f : ∀ D σ H, t' D σ H → t D σ H) : PSs X e t' := ⟨fun pins s σ H Q I q => h.run pins s σ H Q I (f _ _ _ q)⟩

section
variable {X : Cx} {xs : Exs} {W : WX} {cl : Cl} {a b c : Expr} {pos : Pos}
abbrev CE (xs : Exs) (W : WX) (cl : Cl) (X : Cx) (e : Expr) (ir : E) : Prop := PE X e (SR xs X.K W (evE cl ir))
abbrev CT (xs : Exs) (W : WX) (cl : Cl) (X : Cx) (e : Expr) (ir : E) : Prop := PT X e (ST xs X.K W fun ρ => truthR (evE cl ir ρ))

/-! ### names, constants -/
theorem ce_var {i : Nat} {x : Str} (hN : X.N[i]? = some x) (hv : Vis X.env.scope x) (hd : (x == ("__debug__" : Str)) = false) (hcd : (x == ("__classdict__" : Str)) = false) : CE xs W cl X (.Name x pos) (.var i) := by
  refine peImp (pe_var hN hv hd hcd) fun σ H Q => ?_
  rintro ⟨ρ, F, Own, hs, h⟩
  show ∃ v, σ[i]? = some (some v) ∧ Q v H
  simp only [evE, getV] at h
  split at h
  · rename_i d e
    obtain ⟨v, e2, r⟩ := hs.env.getVal e
    exact ⟨v, e2, h v H (Same.refl H) r⟩
  · rename_i d e
    obtain ⟨a, vs, ds, rfl, e2, m, hH, r⟩ := hs.env.getOwn (.inl e)
    exact ⟨_, e2, h _ H (Same.refl H) ⟨a, vs, ds, rfl, rfl, m, hH, r⟩⟩
  · rename_i d e
    obtain ⟨a, vs, ds, rfl, e2, m, hH, r⟩ := hs.env.getOwn (.inr e)
    exact ⟨_, e2, h _ H (Same.refl H) ⟨a, vs, ds, rfl, rfl, m, hH, r⟩⟩
  · exact h.elim
theorem cstImp {v : V} {d : D} (r : ∀ H F, RepV X.K H F d v) (h : PE X a (tC v)) : CE xs W cl X a (.cst d) := by
  refine peImp h fun σ H Q => ?_
  rintro ⟨ρ, F, Own, hs, h⟩
  exact h v H (Same.refl H) (r H F)
theorem ce_int {i : Int} {j : Nat} : CE xs W cl X (.Constant (.int i) j pos) (.cst (.int i)) := cstImp (fun _ _ => .int i) pe_int
theorem ce_bl {i : Bool} {j : Nat} : CE xs W cl X (.Constant (.bool i) j pos) (.cst (.bl i)) := cstImp (fun _ _ => .bl i) pe_bl
theorem ce_non {j : Nat} : CE xs W cl X (.Constant .none j pos) (.cst .non) := cstImp (fun _ _ => .non) pe_non
theorem ce_str {x : Str} {j : Nat} (hx : okS x.cps.toList) : CE xs W cl X (.Constant (.str x) j pos) (.cst (.str x.cps.toList)) :=
  cstImp (fun H F => by have r : RepV X.K H F (.str x.cps.toList) (.str (toS x.cps.toList)) := .str _ hx; rw [toS_tl] at r; exact r) pe_str

/-! ### two operands -/
/-- an operation by what is read of its operands -/
def rBin (K : PySem.W.Frag) (g : D → D → Option (Kd × D)) : R2 := fun x y H Q => ∃ F d e p, RdD K H F d x ∧ RdD K H F e y ∧ g d e = some p ∧ ∀ v H', Same H H' → Res K H H' F [] p v → Q v H'
theorem Res.nob {K : PySem.W.Frag} {H₀ H : Hp} {F : Fb} {Own : List Addr} {p : Kd × D} {v : V} (r : Res K H₀ H F [] p v) : Res K H₀ H F Own p v := by
  obtain ⟨k, d⟩ := p
  cases k with
  | v => exact r
  | f => exact r
  | b =>
    obtain ⟨a, vs, ds, e, e2, n, h, q⟩ := r
    cases n
/-- two in a row -/
theorem two {ta tb : RK} {K : PySem.W.Frag} {F : Fb} {Own : List Addr} {σ : L2.St} {H : Hp} {k : (Kd × D) → (Kd × D) → RK} {Q : VK} (h : After xs K W σ H (ta.bind fun p => tb.bind fun q => k p q) fun p => ∀ v H', Same H H' → Res K H H' F Own p v → Q v H') :
    After xs K W σ H ta fun p => ∀ x H1, Same H H1 → Res K H H1 F Own p x → After xs K W σ H1 tb fun q => ∀ y H2, Same H1 H2 → Res K H1 H2 F Own q y →
      RdD K H2 F p.2 x ∧ RdD K H2 F q.2 y ∧ Same H H2 ∧ After xs K W σ H2 (k p q) fun p => ∀ v H', Same H2 H' → Res K H2 H' F Own p v → Q v H' := by
  refine h.bind.imp fun p _ h => ?_
  intro x H1 s1 r1
  refine (After.move s1 h.bind).imp fun q _ h => ?_
  intro y H2 s2 r2
  have s := s1.trans s2
  refine ⟨r1.rd.same s2, r2.rd, s, (After.move s h).imp fun p _ h => ?_⟩
  intro v H' s' r'
  exact h v H' (s.trans s') (r'.ahead s)
theorem ce_op {op : Operator} {o : Bop} {ia ib : E} (ho : OpR X (binaryOp op) (rBin X.K (binD o))) (ha : CE xs W cl X a ia) (hb : CE xs W cl X b ib) : CE xs W cl X (.BinOp a op b pos) (.bin o ia ib) := by
  refine peImp (pe_op ho ha hb) fun σ H Q => ?_
  rintro ⟨ρ, F, Own, hs, h⟩
  simp only [evE] at h
  refine ⟨ρ, F, Own, hs, (two h).imp fun p _ h => ?_⟩
  intro x H1 s1 r1
  refine ⟨ρ, F, Own, hs.same s1, (h x H1 s1 r1).imp fun q _ h => ?_⟩
  intro y H2 s2 r2
  obtain ⟨h1, h2, s, h⟩ := h y H2 s2 r2
  unfold okK at h
  split at h
  · rename_i d e
    exact ⟨F, p.2, q.2, d, h1, h2, e, fun v H' s' r' => h v H' s' r'.nob⟩
  · exact h.elim
/-- a comparison by what is read -/
def rCmp (K : PySem.W.Frag) (o : Cop) : R2 := fun x y H Q => ∃ F d e t, RdD K H F d x ∧ RdD K H F e y ∧ cmpD o d e = some t ∧ Q (.bl t) H
theorem cmpRead {o : Cop} {ia ib : E} {σ : L2.St} {H : Hp} {Q : VK} (h : SR xs X.K W (evE cl (.cmp o ia ib)) σ H Q) : tOp (rCmp X.K o) (SR xs X.K W (evE cl ia)) (SR xs X.K W (evE cl ib)) σ H Q := by
  obtain ⟨ρ, F, Own, hs, h⟩ := h
  simp only [evE] at h
  refine ⟨ρ, F, Own, hs, (two h).imp fun p _ h => ?_⟩
  intro x H1 s1 r1
  refine ⟨ρ, F, Own, hs.same s1, (h x H1 s1 r1).imp fun q _ h => ?_⟩
  intro y H2 s2 r2
  obtain ⟨h1, h2, s, h⟩ := h y H2 s2 r2
  split at h
  · rename_i t e
    exact ⟨F, p.2, q.2, t, h1, h2, e, h _ H2 (Same.refl _) (.bl t)⟩
  · exact h.elim
theorem stB {ir : E} {σ : L2.St} {H : Hp} {Q : Bool → Hp → Prop} (hb : ∀ ρ p, evE cl ir ρ = .ok p → ∃ k, p = (.v, .bl k)) (h : ST xs X.K W (fun ρ => truthR (evE cl ir ρ)) σ H Q) :
    SR xs X.K W (evE cl ir) σ H fun x H' => ∃ k, x = .bl k ∧ Q k H' := by
  obtain ⟨ρ, F, Own, hs, h⟩ := h
  refine ⟨ρ, F, Own, hs, h.bind.imp fun p e h => ?_⟩
  intro v H' s r
  obtain ⟨k, rfl⟩ := hb ρ p e
  have r : RepV X.K H' F (.bl k) v := r
  cases r
  exact ⟨k, rfl, h H' s⟩
theorem ce_cmp {op : CmpOp} {o : Cop} {ia ib : E} (ho : OpR X (compareOp op) (rCmp X.K o)) (ha : CE xs W cl X a ia) (hb : CE xs W cl X b ib) (hm : behindInMarks op b = false) : CE xs W cl X (.Compare a [op] [b] pos) (.cmp o ia ib) :=
  peImp (pe_cmpR ho ha hb hm) fun _ _ _ h => cmpRead h
theorem bind_ok {α β : Type} {r : R α} {f : α → R β} {b : β} (h : r.bind f = .ok b) : ∃ a, r = .ok a ∧ f a = .ok b := by
  cases r with
  | ok a => exact ⟨a, rfl, h⟩
  | exn x a => cases h
  | stuck => cases h
theorem cmpB (o : Cop) (ia ib : E) (ρ : List Slot) (p : Kd × D) (h : evE cl (.cmp o ia ib) ρ = .ok p) : ∃ k, p = (.v, .bl k) := by
  simp only [evE] at h
  obtain ⟨p1, e1, h⟩ := bind_ok h
  obtain ⟨p2, e2, h⟩ := bind_ok h
  split at h
  · cases h; exact ⟨_, rfl⟩
  · cases h
theorem ct_cmp {op : CmpOp} {o : Cop} {ia ib : E} (ho : OpR X (compareOp op) (rCmp X.K o)) (ha : CE xs W cl X a ia) (hb : CE xs W cl X b ib) (hm : behindInMarks op b = false) : CT xs W cl X (.Compare a [op] [b] pos) (.cmp o ia ib) :=
  ptImp (pt_cmpR ho ha hb hm) fun _ _ _ h => cmpRead (stB (cmpB o ia ib) h)

/-! ### a op b op c -/
theorem chnRead {o o' : Cop} {ia ib ic : E} {σ : L2.St} {H : Hp} {Q : VK} (h : SR xs X.K W (evE cl (.chn o o' ia ib ic)) σ H Q) :
    tChain (rCmp X.K o) (rCmp X.K o') (SR xs X.K W (evE cl ia)) (SR xs X.K W (evE cl ib)) (SR xs X.K W (evE cl ic)) σ H Q := by
  obtain ⟨ρ, F, Own, hs, h⟩ := h
  simp only [evE] at h
  refine ⟨ρ, F, Own, hs, (two h).imp fun p _ h => ?_⟩
  intro x H1 s1 r1
  refine ⟨ρ, F, Own, hs.same s1, (h x H1 s1 r1).imp fun q _ h => ?_⟩
  intro y H2 s2 r2
  obtain ⟨h1, h2, s, h⟩ := h y H2 s2 r2
  split at h
  · rename_i e
    refine ⟨F, p.2, q.2, true, h1, h2, e, true, rfl, ?_⟩
    rw [if_pos rfl]
    refine ⟨ρ, F, Own, hs.same s, h.bind.imp fun r _ h => ?_⟩
    intro z H3 s3 r3
    split at h
    · rename_i t e3
      exact ⟨F, q.2, r.2, t, h2.same s3, r3.rd, e3, h _ H3 s3 (.bl t)⟩
    · exact h.elim
  · rename_i e
    refine ⟨F, p.2, q.2, false, h1, h2, e, false, rfl, ?_⟩
    rw [if_neg Bool.false_ne_true]
    exact h _ H2 (Same.refl _) (.bl false)
  · exact h.elim
theorem chnB (o o' : Cop) (ia ib ic : E) (ρ : List Slot) (p : Kd × D) (h : evE cl (.chn o o' ia ib ic) ρ = .ok p) : ∃ k, p = (.v, .bl k) := by
  simp only [evE] at h
  obtain ⟨p1, e1, h⟩ := bind_ok h
  obtain ⟨p2, e2, h⟩ := bind_ok h
  split at h
  · obtain ⟨p3, e3, h⟩ := bind_ok h
    split at h
    · cases h; exact ⟨_, rfl⟩
    · cases h
  · cases h; exact ⟨_, rfl⟩
  · cases h
theorem ce_chn {op op' : CmpOp} {o o' : Cop} {ia ib ic : E} (ho : OpR X (compareOp op) (rCmp X.K o)) (ho' : OpR X (compareOp op') (rCmp X.K o')) (ha : CE xs W cl X a ia) (hb : CE xs W cl X b ib) (hc : CE xs W cl X c ic) (hm : lastMarks [op, op'] [b, c] = false) :
    CE xs W cl X (.Compare a [op, op'] [b, c] pos) (.chn o o' ia ib ic) := peImp (pe_chain ho ho' ha hb hc hm) fun _ _ _ h => chnRead h
theorem ct_chn {op op' : CmpOp} {o o' : Cop} {ia ib ic : E} (ho : OpR X (compareOp op) (rCmp X.K o)) (ho' : OpR X (compareOp op') (rCmp X.K o')) (ha : CE xs W cl X a ia) (hb : CE xs W cl X b ib) (hc : CE xs W cl X c ic) (hm : lastMarks [op, op'] [b, c] = false) :
    CT xs W cl X (.Compare a [op, op'] [b, c] pos) (.chn o o' ia ib ic) := ptImp (pt_chain ho ho' ha hb hc hm) fun _ _ _ h => chnRead (stB (chnB o o' ia ib ic) h)

/-! ### truth -/
theorem truV {K : PySem.W.Frag} {H : Hp} {F : Fb} {d : D} {v : V} {b : Bool} (r : RdD K H F d v) (h : truthD d = some b) : TruV K v H b := by
  cases d with
  | non => cases r.isNon; cases h; rfl
  | bl i => cases r.isBl; cases h; rfl
  | int i => cases r.isInt; cases h; rfl
  | str s =>
    cases r.isStr.1
    simp only [truthD] at h
    split at h
    · rename_i hz
      cases h
      refine ⟨by rw [toS_len, sizeLine_eq]; exact hz, ?_⟩
      rw [toS_len]
      cases s with
      | nil => rfl
      | cons c s => simp; omega
    · cases h
  | tup ds =>
    obtain ⟨a, vs, rfl, q, r⟩ := r.isTup
    cases h
    exact .inr (.inl ⟨vs, q, by cases r <;> rfl⟩)
  | lst ds =>
    obtain ⟨a, vs, rfl, q, r⟩ := r.isLst
    cases h
    exact .inl ⟨vs, q, by cases r <;> rfl⟩
  | scr ns => cases h
/-- a test of any other form -/
theorem ct_any {ia : E} (ha : CE xs W cl X a ia) (he : ∀ whole, isTrue a X.env whole = (do let v ← whole; standAt a.pos; holding [v] (truthy v))) : CT xs W cl X a ia := by
  refine ptImp (pt_truth ha he) fun σ H Q => ?_
  rintro ⟨ρ, F, Own, hs, h⟩
  refine ⟨ρ, F, Own, hs, h.bind.imp fun p _ h => ?_⟩
  intro v H' s r
  split at h
  · rename_i b e
    exact ⟨b, truV r.rd e, h H' s⟩
  · exact h.elim
abbrev CW (xs : Exs) (W : WX) (cl : Cl) (X : Cx) (e : Expr) (ir : E) : Prop := PW X e (ST xs X.K W fun ρ => truthR (evE cl ir ρ))
theorem bind_assoc {α β γ : Type} (r : R α) (f : α → R β) (g : β → R γ) : (r.bind f).bind g = r.bind fun a => (f a).bind g := by cases r <;> rfl
/-- the truth of a and b -/
theorem truthAnd (ia ib : E) (ρ : List Slot) : truthR (evE cl (.and ia ib) ρ) = (truthR (evE cl ia ρ)).bind fun t => if t = true then truthR (evE cl ib ρ) else .ok false := by
  unfold truthR
  simp only [evE]
  rw [bind_assoc, bind_assoc]
  congr 1
  funext p
  cases e : truthD p.2 with
  | none => rfl
  | some t => cases t <;> simp [R.bind, e]
theorem truthOr (ia ib : E) (ρ : List Slot) : truthR (evE cl (.or ia ib) ρ) = (truthR (evE cl ia ρ)).bind fun t => if t = true then .ok true else truthR (evE cl ib ρ) := by
  unfold truthR
  simp only [evE]
  rw [bind_assoc, bind_assoc]
  congr 1
  funext p
  cases e : truthD p.2 with
  | none => rfl
  | some t => cases t <;> simp [R.bind, e]
theorem truthNot (ia : E) (ρ : List Slot) : truthR (evE cl (.not ia) ρ) = (truthR (evE cl ia ρ)).bind fun t => .ok (!t) := by
  unfold truthR
  simp only [evE]
  rw [bind_assoc, bind_assoc]
  congr 1
  funext p
  cases e : truthD p.2 with
  | none => rfl
  | some t => rfl
theorem truthIte (ic ia ib : E) (ρ : List Slot) : truthR (evE cl (.ite ic ia ib) ρ) = (truthR (evE cl ic ρ)).bind fun t => if t = true then truthR (evE cl ia ρ) else truthR (evE cl ib ρ) := by
  unfold truthR
  simp only [evE]
  rw [bind_assoc, bind_assoc]
  congr 1
  funext p
  cases e : truthD p.2 with
  | none => rfl
  | some t => cases t <;> simp [R.bind]
theorem cw_and1 {ia : E} (ha : CT xs W cl X a ia) : CW xs W cl X (.BoolOp .And [a] pos) ia := pw_and1 ha
theorem cw_or1 {ia : E} (ha : CT xs W cl X a ia) : CW xs W cl X (.BoolOp .Or [a] pos) ia := pw_or1 ha
theorem cw_and {ia ib : E} {r : List Expr} (ha : CT xs W cl X a ia) (hb : CW xs W cl X (.BoolOp .And (b :: r) pos) ib) : CW xs W cl X (.BoolOp .And (a :: b :: r) pos) (.and ia ib) := by
  refine pwImp (pw_and ha hb) fun σ H Q => ?_
  rintro ⟨ρ, F, Own, hs, h⟩
  simp only [truthAnd] at h
  refine ⟨ρ, F, Own, hs, h.bind.imp fun t _ h => ?_⟩
  intro H1 s1
  cases t with
  | true => exact ⟨ρ, F, Own, hs.same s1, (After.move s1 h).imp fun b _ k H' s => k H' (s1.trans s)⟩
  | false => exact h H1 s1
theorem cw_or {ia ib : E} {r : List Expr} (ha : CT xs W cl X a ia) (hb : CW xs W cl X (.BoolOp .Or (b :: r) pos) ib) : CW xs W cl X (.BoolOp .Or (a :: b :: r) pos) (.or ia ib) := by
  refine pwImp (pw_or ha hb) fun σ H Q => ?_
  rintro ⟨ρ, F, Own, hs, h⟩
  simp only [truthOr] at h
  refine ⟨ρ, F, Own, hs, h.bind.imp fun t _ h => ?_⟩
  intro H1 s1
  cases t with
  | true => exact h H1 s1
  | false => exact ⟨ρ, F, Own, hs.same s1, (After.move s1 h).imp fun b _ k H' s => k H' (s1.trans s)⟩
theorem ct_not {ia : E} (ha : CT xs W cl X a ia) : CT xs W cl X (.UnaryOp .Not a pos) (.not ia) := by
  refine ptImp (pt_not ha) fun σ H Q => ?_
  rintro ⟨ρ, F, Own, hs, h⟩
  simp only [truthNot] at h
  exact ⟨ρ, F, Own, hs, h.bind.imp fun t _ h => h⟩
theorem ce_one {op : BoolOp} {ia : E} (ha : CE xs W cl X a ia) : CE xs W cl X (.BoolOp op [a] pos) ia := pe_one ha
theorem ce_and {ia ib : E} {r : List Expr} (ha : CE xs W cl X a ia) (hb : CE xs W cl X (.BoolOp .And (b :: r) pos) ib) : CE xs W cl X (.BoolOp .And (a :: b :: r) pos) (.and ia ib) := by
  refine peImp (pe_andT ha hb) fun σ H Q => ?_
  rintro ⟨ρ, F, Own, hs, h⟩
  simp only [evE] at h
  refine ⟨ρ, F, Own, hs, h.bind.imp fun p _ h => ?_⟩
  intro x H1 s1 r1
  split at h
  · rename_i e
    refine ⟨true, truV r1.rd e, ?_⟩
    rw [if_pos rfl]
    exact ⟨ρ, F, Own, hs.same s1, (After.move s1 h).imp fun b _ k v H' s r => k v H' (s1.trans s) (r.ahead s1)⟩
  · rename_i e
    refine ⟨false, truV r1.rd e, ?_⟩
    rw [if_neg Bool.false_ne_true]
    exact h x H1 s1 r1
  · exact h.elim
theorem ce_or {ia ib : E} {r : List Expr} (ha : CE xs W cl X a ia) (hb : CE xs W cl X (.BoolOp .Or (b :: r) pos) ib) : CE xs W cl X (.BoolOp .Or (a :: b :: r) pos) (.or ia ib) := by
  refine peImp (pe_orT ha hb) fun σ H Q => ?_
  rintro ⟨ρ, F, Own, hs, h⟩
  simp only [evE] at h
  refine ⟨ρ, F, Own, hs, h.bind.imp fun p _ h => ?_⟩
  intro x H1 s1 r1
  split at h
  · rename_i e
    refine ⟨true, truV r1.rd e, ?_⟩
    rw [if_pos rfl]
    exact h x H1 s1 r1
  · rename_i e
    refine ⟨false, truV r1.rd e, ?_⟩
    rw [if_neg Bool.false_ne_true]
    exact ⟨ρ, F, Own, hs.same s1, (After.move s1 h).imp fun b _ k v H' s r => k v H' (s1.trans s) (r.ahead s1)⟩
  · exact h.elim
theorem ce_not {ia : E} (ha : CE xs W cl X a ia) : CE xs W cl X (.UnaryOp .Not a pos) (.not ia) := by
  refine peImp (pe_notT ha) fun σ H Q => ?_
  rintro ⟨ρ, F, Own, hs, h⟩
  simp only [evE] at h
  refine ⟨ρ, F, Own, hs, h.bind.imp fun p _ h => ?_⟩
  intro x H1 s1 r1
  split at h
  · rename_i t e
    exact ⟨t, truV r1.rd e, h _ H1 s1 (.bl _)⟩
  · exact h.elim
theorem ce_ite {ic ia ib : E} (hc : CT xs W cl X c ic) (ha : CE xs W cl X a ia) (hb : CE xs W cl X b ib) : CE xs W cl X (.IfExp c a b pos) (.ite ic ia ib) := by
  refine peImp (pe_ifExp hc ha hb) fun σ H Q => ?_
  rintro ⟨ρ, F, Own, hs, h⟩
  simp only [evE] at h
  refine ⟨ρ, F, Own, hs, ?_⟩
  have e : (truthR (evE cl ic ρ)) = (evE cl ic ρ).bind fun p => match truthD p.2 with | some b => .ok b | none => .stuck := rfl
  show After xs X.K W σ H (truthR (evE cl ic ρ)) _
  rw [e]
  revert h
  cases evE cl ic ρ with
  | stuck => exact fun h => h
  | exn x a => exact fun h => h
  | ok p =>
    intro h
    show After xs X.K W σ H (match truthD p.2 with | some b => .ok b | none => .stuck) _
    have h : After xs X.K W σ H (match truthD p.2 with | some true => evE cl ia ρ | some false => evE cl ib ρ | none => .stuck) _ := h
    cases e2 : truthD p.2 with
    | none => rw [e2] at h; exact h.elim
    | some t =>
      rw [e2] at h
      intro H1 s1
      cases t with
      | true =>
        rw [if_pos rfl]
        exact ⟨ρ, F, Own, hs.same s1, (After.move s1 h).imp fun b _ k v H' s r => k v H' (s1.trans s) (r.ahead s1)⟩
      | false =>
        rw [if_neg Bool.false_ne_true]
        exact ⟨ρ, F, Own, hs.same s1, (After.move s1 h).imp fun b _ k v H' s r => k v H' (s1.trans s) (r.ahead s1)⟩
theorem ce_neg {ia : E} (ha : CE xs W cl X a ia) : CE xs W cl X (.UnaryOp .USub a pos) (.neg ia) := by
  refine peImp (pe_un un_neg ha) fun σ H Q => ?_
  rintro ⟨ρ, F, Own, hs, h⟩
  simp only [evE] at h
  refine ⟨ρ, F, Own, hs, h.bind.imp fun p _ h => ?_⟩
  intro x H1 s1 r1
  split at h
  · rename_i i e
    have r2 := r1.rd
    rw [e] at r2
    exact ⟨i, r2.isInt, h _ H1 s1 (.int _)⟩
  · exact h.elim

/-! ### argument lists, displays -/
theorem ca_nil : PA X [] (SRs xs X.K W (evEs cl .nil)) := by
  refine paImp pa_nil fun σ H Q => ?_
  rintro ⟨ρ, F, Own, hs, h⟩
  exact h [] H (Same.refl H) .nil
theorem Res.sames {K : PySem.W.Frag} {H₀ H H' : Hp} {F : Fb} {Own : List Addr} (s : Same H H') : ∀ {ps : List (Kd × D)} {vs : List V}, Paired (fun p v => Res K H₀ H F Own p v) ps vs → Paired (fun p v => Res K H₀ H' F Own p v) ps vs
  | _, _, .nil => .nil
  | _, _, .cons r t => .cons (r.same s) (Res.sames s t)
theorem Res.aheads {K : PySem.W.Frag} {H₀ H H' : Hp} {F : Fb} {Own : List Addr} (s : Same H₀ H) : ∀ {ps : List (Kd × D)} {vs : List V}, Paired (fun p v => Res K H H' F Own p v) ps vs → Paired (fun p v => Res K H₀ H' F Own p v) ps vs
  | _, _, .nil => .nil
  | _, _, .cons r t => .cons (r.ahead s) (Res.aheads s t)
theorem ca_cons {e : Expr} {es : List Expr} {ie : E} {ies : Es} (ha : CE xs W cl X e ie) (hr : PA X es (SRs xs X.K W (evEs cl ies))) (hs : starEach (e :: es) X.env = (false, eval e X.env) :: starEach es X.env) : PA X (e :: es) (SRs xs X.K W (evEs cl (.cons false ie ies))) := by
  refine paImp (pa_cons ha hr hs) fun σ H Q => ?_
  rintro ⟨ρ, F, Own, hs, h⟩
  simp only [evEs] at h
  refine ⟨ρ, F, Own, hs, h.bind.imp fun p _ h => ?_⟩
  intro x H1 s1 r1
  have h : After xs X.K W σ H ((evEs cl ies ρ).bind fun ps => .ok ([p] ++ ps)) _ := h
  refine ⟨ρ, F, Own, hs.same s1, (After.move s1 h.bind).imp fun ps _ h => ?_⟩
  intro vs H2 s2 r2
  exact h (x :: vs) H2 (s1.trans s2) (.cons (r1.same s2) (Res.aheads s1 r2))
theorem solids {K : PySem.W.Frag} {H₀ H : Hp} {F : Fb} {Own : List Addr} (hF : ∀ a, F a → H₀ a ≠ none) : ∀ {ps : List (Kd × D)} {vs : List V} {ds : List D}, Paired (fun p v => Res K H₀ H F Own p v) ps vs → solid ps = some ds → RepVs K H F ds vs
  | _, _, _, .nil, e => by cases e; exact .nil
  | (k, d) :: ps, _, ds, .cons r t, e => by
    cases k with
    | b => cases e
    | v =>
      simp only [solid] at e
      split at e
      · rename_i ds' e'
        cases e
        exact .cons (Res.solid (by decide) hF r) (solids hF t e')
      · cases e
    | f =>
      simp only [solid] at e
      split at e
      · rename_i ds' e'
        cases e
        exact .cons (Res.solid (by decide) hF r) (solids hF t e')
      · cases e
theorem same_upd {H : Hp} {p : Addr} {o : HO} (n : H p = none) : Same H (upd H p o) := fun b u e => by rw [upd_ne (ne_of_none e n)]; exact e
theorem ce_tup {es : List Expr} {ies : Es} {k : Nat} (h : PA X es (SRs xs X.K W (evEs cl ies))) : CE xs W cl X (.Tuple es k pos) (.tup ies) := by
  refine peImp (pe_tup h) fun σ H Q => ?_
  rintro ⟨ρ, F, Own, hs, h⟩
  simp only [evE] at h
  refine ⟨ρ, F, Own, hs, h.bind.imp fun ps _ h => ?_⟩
  intro vs H1 s1 r1
  split at h
  · rename_i ds e
    split at h
    · rename_i hz
      have r := solids hs.ex r1 e
      refine ⟨by rw [← r.length, sizeLine_eq]; exact hz, fun p hp => ?_⟩
      have s := same_upd (o := .tup vs) hp
      exact h _ _ (s1.trans s) (RepV.tup (SqT.of upd_same) (r.same s))
    · exact h.elim
  · exact h.elim
theorem ce_lst {es : List Expr} {ies : Es} (h : PA X es (SRs xs X.K W (evEs cl ies))) : CE xs W cl X (.List es pos) (.lst ies) := by
  refine peImp (pe_lst h) fun σ H Q => ?_
  rintro ⟨ρ, F, Own, hs, h⟩
  simp only [evE] at h
  refine ⟨ρ, F, Own, hs, h.bind.imp fun ps _ h => ?_⟩
  intro vs H1 s1 r1
  split at h
  · rename_i ds e
    split at h
    · rename_i hz
      have r := solids hs.ex r1 e
      refine ⟨by rw [← r.length, sizeLine_eq]; exact hz, fun p hp => ?_⟩
      have s := same_upd (o := .lst vs) hp
      exact h _ _ (s1.trans s) ⟨p, vs, ds, rfl, rfl, s1.free hp, upd_same, r.add s hp⟩
    · exact h.elim
  · exact h.elim

/-! ### subscripts, slices -/
def rIdx (K : PySem.W.Frag) : R2 := fun x y H Q => ∃ F d e p, RdD K H F d x ∧ RdD K H F e y ∧ idxD d e = some p ∧ ∀ v, RepV K H F p v → Q v H
theorem ixN_D (n : Nat) (i : Int) : ixN n i = ixD n i := rfl
theorem ix_D : IxR X (rIdx X.K) := by
  intro value slice pins s σ H x y v u Q I rx ry h hs
  obtain ⟨F, d, e, p, hx, hy, g, q⟩ := h
  refine ix_seq value slice pins s σ H x y v u Q I rx ry ?_ hs
  unfold idxD at g
  split at g
  · rename_i ds i
    obtain ⟨a, vs, rfl, q1, r⟩ := hx.isTup
    cases hy.isInt
    split at g
    · rename_i j e
      obtain ⟨w, e2, r2⟩ := r.get g
      refine .inr (.inl ⟨a, vs, i, w, rfl, rfl, q1, ?_, q w r2⟩)
      unfold atI
      rw [ixN_D, ← r.length, e]
      exact e2
    · cases g
  · rename_i ds i
    obtain ⟨a, vs, rfl, q1, r⟩ := hx.isLst
    cases hy.isInt
    split at g
    · rename_i j e
      obtain ⟨w, e2, r2⟩ := r.get g
      refine .inl ⟨a, vs, i, w, rfl, rfl, q1, ?_, q w r2⟩
      unfold atI
      rw [ixN_D, ← r.length, e]
      exact e2
    · cases g
  · rename_i ns i
    obtain ⟨a, rfl, q1⟩ := hx.isScr
    cases hy.isInt
    split at g
    · rename_i j e
      split at g
      · rename_i n e2
        cases g
        refine .inl ⟨a, _, i, .int n, rfl, rfl, q1, ?_, q _ (.int n)⟩
        unfold atI
        rw [ixN_D, List.length_map, e]
        show (ns.map V.int)[j]? = _
        rw [List.getElem?_map, e2]
        rfl
      · cases g
    · cases g
  · rename_i s' i
    obtain ⟨rfl, ok⟩ := hx.isStr
    cases hy.isInt
    split at g
    · rename_i j e
      split at g
      · rename_i c e2
        split at g
        · rename_i hz
          cases g
          refine .inr (.inr ⟨toS s', i, c, rfl, rfl, by rw [toS_len, sizeLine_eq]; exact hz, ?_, q _ (.str [c] fun k hk => by
            have := List.mem_singleton.mp hk
            subst this
            exact ok _ (List.mem_of_getElem? e2))⟩)
          unfold atI
          rw [ixN_D]
          show (ixD (toS s').cps.toList.length i).bind _ = _
          rw [show (toS s').cps.toList = s' from by simp, e]
          exact e2
        · cases g
      · cases g
    · cases g
  · cases g
theorem ce_idx {ia ib : E} (ha : CE xs W cl X a ia) (hb : CE xs W cl X b ib) (hp : PlainIx b) : CE xs W cl X (.Subscript a b pos) (.idx ia ib) := by
  refine peImp (pe_ix ix_D ha hb hp) fun σ H Q => ?_
  rintro ⟨ρ, F, Own, hs, h⟩
  simp only [evE] at h
  refine ⟨ρ, F, Own, hs, (two h).imp fun p _ h => ?_⟩
  intro x H1 s1 r1
  refine ⟨ρ, F, Own, hs.same s1, (h x H1 s1 r1).imp fun q _ h => ?_⟩
  intro y H2 s2 r2
  obtain ⟨h1, h2, s, h⟩ := h y H2 s2 r2
  unfold okV at h
  split at h
  · rename_i d e
    exact ⟨F, p.2, q.2, d, h1, h2, e, fun v r => h v H2 (Same.refl _) r⟩
  · exact h.elim
end
end Ev
end

section
set_option Elab.async false
set_option linter.all false
set_option maxRecDepth 100000
set_option maxHeartbeats 1000000
/-! Ev1c: the operators. -/
namespace Ev
open PySem PySem.Spec L2

/-! ### as the library's data -/
mutual
def toPy : D → PyData
  | .non => .none
  | .bl b => .bool b
  | .int i => .int i
  | .str s => .str (toS s)
  | .tup ds => .tuple (toPys ds)
  | .lst ds => .list (toPys ds)
  | .scr _ => .none
def toPys : List D → List PyData
  | [] => []
  | d :: ds => toPy d :: toPys ds
end
theorem toS_inj {a b : List Nat} : (toS a == toS b) = (a == b) := by
  rw [Bool.eq_iff_iff]
  simp only [beq_iff_eq]
  constructor
  · intro h
    have := congrArg (fun x : Str => x.cps.toList) h
    simpa using this
  · rintro rfl; rfl
mutual
theorem eqD_py : ∀ a b : D, dep a ≤ 60 → dep b ≤ 60 → PyData.eqv (toPy a) (toPy b) = eqD a b
  | .non, b, _, h2 => by cases b <;> simp [toPy, PyData.eqv, eqD, dep] at h2 ⊢
  | .bl x, b, _, h2 => by cases b <;> simp [toPy, PyData.eqv, eqD, dep, b2z] at h2 ⊢
  | .int x, b, _, h2 => by cases b <;> simp [toPy, PyData.eqv, eqD, dep, b2z] at h2 ⊢
  | .str x, b, _, h2 => by cases b <;> simp [toPy, PyData.eqv, eqD, dep, toS_inj] at h2 ⊢
  | .scr x, b, h1, h2 => by simp [dep] at h1
  | .tup xs, b, h1, h2 => by
    cases b with
    | tup ys =>
      simp only [toPy, PyData.eqv, eqD]
      simp only [dep] at h1 h2
      exact eqDs_py xs ys (by omega) (by omega)
    | _ => simp [toPy, PyData.eqv, eqD, dep] at h2 ⊢
  | .lst xs, b, h1, h2 => by
    cases b with
    | lst ys =>
      simp only [toPy, PyData.eqv, eqD]
      simp only [dep] at h1 h2
      exact eqDs_py xs ys (by omega) (by omega)
    | _ => simp [toPy, PyData.eqv, eqD, dep] at h2 ⊢
theorem eqDs_py : ∀ a b : List D, deps a ≤ 60 → deps b ≤ 60 → PyData.eqvAll (toPys a) (toPys b) = eqDs a b
  | [], [], _, _ => rfl
  | [], _ :: _, _, _ => rfl
  | _ :: _, [], _, _ => rfl
  | x :: xs, y :: ys, h1, h2 => by
    simp only [deps] at h1 h2
    simp only [toPys, PyData.eqvAll, eqDs]
    rw [eqD_py x y (by omega) (by omega), eqDs_py xs ys (by omega) (by omega)]
end
section
variable {K : PySem.W.Frag} {H : Hp} {F : Fb}
mutual
theorem RepV.dp : ∀ {d : D} {v : V}, RepV K H F d v → dep d ≤ 60 → Dp K H v (toPy d) ∧ (toPy d).canLay0 = true ∧ (toPy d).depth ≤ dep d
  | _, _, .non, _ => ⟨.non, rfl, Nat.le_refl _⟩
  | _, _, .bl b, _ => ⟨.bl b, rfl, Nat.le_refl _⟩
  | _, _, .int i, _ => ⟨.int i, rfl, Nat.le_refl _⟩
  | _, _, .str s q, _ => ⟨.str _, by
      simp only [toPy, PyData.canLay0, PyData.strOk, toS]
      simp only [List.all_toArray, List.all_eq_true, decide_eq_true_eq]
      exact q, by simp [toPy, PyData.depth, dep]⟩
  | _, _, .tup h r, q => by
    simp only [dep] at q
    obtain ⟨h1, h2, h3⟩ := RepVs.dp r (by omega)
    exact ⟨.tup h h1, by simpa [toPy, PyData.canLay0] using h2, by simp only [toPy, PyData.depth, dep]; omega⟩
  | _, _, .lst h n r, q => by
    simp only [dep] at q
    obtain ⟨h1, h2, h3⟩ := RepVs.dp r (by omega)
    exact ⟨.lst (SqL.of h) h1, by simpa [toPy, PyData.canLay0] using h2, by simp only [toPy, PyData.depth, dep]; omega⟩
  | _, _, .scr h, q => by simp [dep] at q
theorem RepVs.dp : ∀ {d : List D} {v : List V}, RepVs K H F d v → deps d ≤ 60 → DpAll K H v (toPys d) ∧ PyData.canLayAll0 (toPys d) = true ∧ PyData.depthAll (toPys d) ≤ deps d
  | _, _, .nil, _ => ⟨.nil, rfl, Nat.le_refl _⟩
  | _, _, .cons h r, q => by
    simp only [deps] at q
    obtain ⟨h1, h2, h3⟩ := RepV.dp h (by omega)
    obtain ⟨k1, k2, k3⟩ := RepVs.dp r (by omega)
    exact ⟨.cons h1 k1, by simp [toPys, PyData.canLayAll0, h2, k2], by simp only [toPys, PyData.depthAll, deps]; omega⟩
end
theorem RdD.dp {d : D} {v : V} (r : RdD K H F d v) (q : dep d ≤ 60) : Dp K H v (toPy d) ∧ SeqAt.shaped (toPy d) = true := by
  have key : Dp K H v (toPy d) ∧ (toPy d).canLay0 = true ∧ (toPy d).depth ≤ dep d := by
    cases d with
    | lst ds =>
      obtain ⟨a, vs, rfl, h, r⟩ := r
      simp only [dep] at q
      obtain ⟨h1, h2, h3⟩ := RepVs.dp r (by omega)
      exact ⟨.lst (SqL.of h) h1, by simpa [toPy, PyData.canLay0] using h2, by simp only [toPy, PyData.depth, dep]; omega⟩
    | non => exact RepV.dp r q
    | bl b => exact RepV.dp r q
    | int i => exact RepV.dp r q
    | str s => exact RepV.dp r q
    | tup ds => exact RepV.dp r q
    | scr ns => simp [dep] at q
  refine ⟨key.1, ?_⟩
  unfold SeqAt.shaped
  rw [key.2.1, Bool.true_and, decide_eq_true_eq]
  omega
end

theorem ltS_iff : ∀ x y : List Nat, ltS x y = decide (x < y)
  | [], [] => by simp [ltS]
  | [], _ :: _ => by simp [ltS]
  | _ :: _, [] => by simp [ltS]
  | a :: as, b :: bs => by
    simp only [ltS, ltS_iff as bs, List.cons_lt_cons_iff]
    by_cases h1 : a < b
    · simp [h1]
    · by_cases h2 : b < a
      · have : a ≠ b := by omega
        simp [h1, h2, this]
      · have : a = b := by omega
        simp [this]

section
variable {X : Cx}
theorem op_eqE (hu : X.A.units + 64 < cLine) : OpR X (compareOp .Eq) (rCmp X.K .eq) := by
  intro pins s σ H x y v u Q I rx ry h
  obtain ⟨F, d, e, t, hx, hy, g, q⟩ := h
  simp only [cmpD] at g
  split at g
  · rename_i z
    cases g
    obtain ⟨k1, s1⟩ := hx.dp z.1
    obtain ⟨k2, s2⟩ := hy.dp z.2
    refine op_eqD hu pins s σ H x y v u Q I rx ry ⟨_, _, k1, k2, s1, s2, ?_⟩
    rw [eqD_py d e z.1 z.2]
    exact q
  · cases g
theorem op_neE (hu : X.A.units + 64 < cLine) : OpR X (compareOp .NotEq) (rCmp X.K .ne) := by
  intro pins s σ H x y v u Q I rx ry h
  obtain ⟨F, d, e, t, hx, hy, g, q⟩ := h
  simp only [cmpD] at g
  split at g
  · rename_i z
    cases g
    obtain ⟨k1, s1⟩ := hx.dp z.1
    obtain ⟨k2, s2⟩ := hy.dp z.2
    refine op_neD hu pins s σ H x y v u Q I rx ry ⟨_, _, k1, k2, s1, s2, ?_⟩
    rw [eqD_py d e z.1 z.2]
    exact q
  · cases g
theorem tl_toS (s : List Nat) : (toS s).cps.toList = s := by simp
theorem op_ltE : OpR X (compareOp .Lt) (rCmp X.K .lt) := by
  intro pins s σ H x y v u Q I rx ry h
  obtain ⟨F, d, e, t, hx, hy, g, q⟩ := h
  cases d <;> cases e <;> simp only [cmpD] at g <;> try cases g
  · cases hx.isInt; cases hy.isInt
    exact op_lt pins s σ H _ _ v u Q I rx ry ⟨_, _, rfl, rfl, q⟩
  · cases hx.isStr.1; cases hy.isStr.1
    refine op_lt_str pins s σ H _ _ v u Q I rx ry ⟨_, _, rfl, rfl, ?_⟩
    rw [tl_toS, tl_toS, ← ltS_iff]; exact q
theorem op_leE : OpR X (compareOp .LtE) (rCmp X.K .le) := by
  intro pins s σ H x y v u Q I rx ry h
  obtain ⟨F, d, e, t, hx, hy, g, q⟩ := h
  cases d <;> cases e <;> simp only [cmpD] at g <;> try cases g
  · cases hx.isInt; cases hy.isInt
    exact op_le pins s σ H _ _ v u Q I rx ry ⟨_, _, rfl, rfl, q⟩
  · cases hx.isStr.1; cases hy.isStr.1
    refine op_le_str pins s σ H _ _ v u Q I rx ry ⟨_, _, rfl, rfl, ?_⟩
    rw [tl_toS, tl_toS, ← ltS_iff]; exact q
theorem op_gtE : OpR X (compareOp .Gt) (rCmp X.K .gt) := by
  intro pins s σ H x y v u Q I rx ry h
  obtain ⟨F, d, e, t, hx, hy, g, q⟩ := h
  cases d <;> cases e <;> simp only [cmpD] at g <;> try cases g
  · cases hx.isInt; cases hy.isInt
    exact op_gt pins s σ H _ _ v u Q I rx ry ⟨_, _, rfl, rfl, q⟩
  · cases hx.isStr.1; cases hy.isStr.1
    refine op_gt_str pins s σ H _ _ v u Q I rx ry ⟨_, _, rfl, rfl, ?_⟩
    rw [tl_toS, tl_toS, ← ltS_iff]; exact q
theorem op_geE : OpR X (compareOp .GtE) (rCmp X.K .ge) := by
  intro pins s σ H x y v u Q I rx ry h
  obtain ⟨F, d, e, t, hx, hy, g, q⟩ := h
  cases d <;> cases e <;> simp only [cmpD] at g <;> try cases g
  · cases hx.isInt; cases hy.isInt
    exact op_ge pins s σ H _ _ v u Q I rx ry ⟨_, _, rfl, rfl, q⟩
  · cases hx.isStr.1; cases hy.isStr.1
    refine op_ge_str pins s σ H _ _ v u Q I rx ry ⟨_, _, rfl, rfl, ?_⟩
    rw [tl_toS, tl_toS, ← ltS_iff]; exact q
theorem RdD.nonIff {K : PySem.W.Frag} {H : Hp} {F : Fb} {d : D} {v : V} (r : RdD K H F d v) : decide (v = V.non) = isNonD d := by
  cases d with
  | non => rw [r.isNon]; rfl
  | bl b => rw [r.isBl]; rfl
  | int b => rw [r.isInt]; rfl
  | str b => rw [r.isStr.1]; rfl
  | tup ds => obtain ⟨a, vs, rfl, _⟩ := r.isTup; rfl
  | lst ds => obtain ⟨a, vs, rfl, _⟩ := r.isLst; rfl
  | scr ds => obtain ⟨a, rfl, _⟩ := r.isScr; rfl
theorem op_isE : OpR X (compareOp .Is) (rCmp X.K .is) := by
  intro pins s σ H x y v u Q I rx ry h
  obtain ⟨F, d, e, t, hx, hy, g, q⟩ := h
  cases e <;> simp only [cmpD] at g <;> try cases g
  cases hy.isNon
  refine L2.op_isN pins s σ H _ _ v u Q I rx ry ⟨rfl, ?_⟩
  rw [hx.nonIff]
  exact q
theorem op_isnotE : OpR X (compareOp .IsNot) (rCmp X.K .isnot) := by
  intro pins s σ H x y v u Q I rx ry h
  obtain ⟨F, d, e, t, hx, hy, g, q⟩ := h
  cases e <;> simp only [cmpD] at g <;> try cases g
  cases hy.isNon
  refine L2.op_notN pins s σ H _ _ v u Q I rx ry ⟨rfl, ?_⟩
  rw [hx.nonIff]
  exact q
/-! in, not in -/
theorem RdD.flat {K : PySem.W.Frag} {H : Hp} {F : Fb} {d : D} {v : V} (r : RdD K H F d v) (f : flatD d = true) : flatV v = true := by
  cases d with
  | non => rw [r.isNon]; rfl
  | bl b => rw [r.isBl]; rfl
  | int b => rw [r.isInt]; rfl
  | str b => rw [r.isStr.1]; rfl
  | _ => cases f
theorem RepVs.flat {K : PySem.W.Frag} {H : Hp} {F : Fb} : ∀ {ds : List D} {vs : List V}, RepVs K H F ds vs → ds.all flatD = true → vs.all flatV = true
  | _, _, .nil, _ => rfl
  | _, _, .cons h r, q => by
    simp only [List.all_cons, Bool.and_eq_true] at q ⊢
    exact ⟨h.rd.flat q.1, RepVs.flat r q.2⟩
theorem eqV_D {K : PySem.W.Frag} {H : Hp} {F : Fb} {d e : D} {v u : V} (r : RdD K H F d v) (r' : RdD K H F e u) (f : flatD d = true) (f' : flatD e = true) : eqV v u = eqD d e := by
  cases d with
  | non =>
    cases r.isNon
    cases e with
    | non => cases r'.isNon; rfl
    | bl b => cases r'.isBl; rfl
    | int b => cases r'.isInt; rfl
    | str b => cases r'.isStr.1; rfl
    | _ => cases f'
  | bl a =>
    cases r.isBl
    cases e with
    | non => cases r'.isNon; rfl
    | bl b => cases r'.isBl; rfl
    | int b => cases r'.isInt; rfl
    | str b => cases r'.isStr.1; rfl
    | _ => cases f'
  | int a =>
    cases r.isInt
    cases e with
    | non => cases r'.isNon; rfl
    | bl b => cases r'.isBl; rfl
    | int b => cases r'.isInt; rfl
    | str b => cases r'.isStr.1; rfl
    | _ => cases f'
  | str a =>
    cases r.isStr.1
    cases e with
    | non => cases r'.isNon; rfl
    | bl b => cases r'.isBl; rfl
    | int b => cases r'.isInt; rfl
    | str b => cases r'.isStr.1; exact toS_inj
    | _ => cases f'
  | _ => cases f
theorem inV_D {K : PySem.W.Frag} {H : Hp} {F : Fb} {d : D} {v : V} (r : RdD K H F d v) (f : flatD d = true) : ∀ {ds : List D} {vs : List V}, RepVs K H F ds vs → ds.all flatD = true → inV v vs = inL d ds
  | _, _, .nil, _ => rfl
  | _, _, .cons h t, q => by
    simp only [List.all_cons, Bool.and_eq_true] at q
    unfold inV
    rw [List.any_cons, eqV_D h.rd r q.1 f]
    simp only [inL]
    congr 1
    exact inV_D r f t q.2

/-! ### texts in texts -/
theorem isPre_take : ∀ y l : List Nat, isPre y l = true ↔ l.take y.length = y
  | [], _ => by simp [isPre]
  | _ :: _, [] => by simp [isPre]
  | a :: as, b :: bs => by
    simp only [isPre, Bool.and_eq_true, beq_iff_eq, isPre_take as bs, List.length_cons, List.take_succ_cons, List.cons.injEq]
    constructor
    · rintro ⟨h1, h2⟩; exact ⟨h1.symm, h2⟩
    · rintro ⟨h1, h2⟩; exact ⟨h1.symm, h2⟩
open PySem.StrLaws in
theorem at_pre (x y : List Nat) (i : Nat) : At (toS x) (toS y) (toS x).length i ↔ i ≤ x.length ∧ isPre y (x.drop i) = true := by
  unfold At
  rw [subAt_eq, isPre_take, tl_toS, tl_toS, toS_len, toS_len, beq_iff_eq]
  constructor
  · rintro ⟨h1, h2⟩
    exact ⟨by omega, h2⟩
  · rintro ⟨h1, h2⟩
    refine ⟨?_, h2⟩
    have := congrArg List.length h2
    rw [List.length_take, List.length_drop] at this
    omega
theorem findS_some (y : List Nat) : ∀ (l : List Nat) (k j : Nat), findS y k l = some j → ∃ i, j = k + i ∧ i ≤ l.length ∧ isPre y (l.drop i) = true ∧ ∀ m, m < i → isPre y (l.drop m) = false
  | [], k, j, h => by
    simp only [findS] at h
    split at h
    · cases h
      exact ⟨0, rfl, Nat.le_refl _, by simpa, fun m hm => absurd hm (Nat.not_lt_zero _)⟩
    · cases h
  | c :: r, k, j, h => by
    simp only [findS] at h
    split at h
    · cases h
      exact ⟨0, rfl, Nat.zero_le _, by simpa, fun m hm => absurd hm (Nat.not_lt_zero _)⟩
    · rename_i hn
      obtain ⟨i, h1, h2, h3, h4⟩ := findS_some y r (k + 1) j h
      refine ⟨i + 1, by omega, by simp; omega, by simpa, fun m hm => ?_⟩
      cases m with
      | zero => simpa using hn
      | succ m => simpa using h4 m (by omega)
theorem findS_none (y : List Nat) : ∀ (l : List Nat) (k : Nat), findS y k l = none → ∀ i, i ≤ l.length → isPre y (l.drop i) = false
  | [], k, h, i, hi => by
    simp only [findS] at h
    split at h
    · cases h
    · rename_i hn
      have : i = 0 := by simpa using hi
      subst this
      simpa using hn
  | c :: r, k, h, i, hi => by
    simp only [findS] at h
    split at h
    · cases h
    · rename_i hn
      cases i with
      | zero => simpa using hn
      | succ i => simpa using findS_none y r (k + 1) h i (by simpa using hi)
theorem inS_find (y : List Nat) : ∀ (l : List Nat) (k : Nat), inS y l = (findS y k l).isSome
  | [], k => by simp only [inS, findS]; split <;> simp_all
  | c :: r, k => by
    simp only [inS, findS]
    split
    · rename_i h; simp [h]
    · rename_i h
      simp only [h, Bool.false_or]
      exact inS_find y r (k + 1)
open PySem.StrLaws in
theorem occ_find (x y : List Nat) : (∃ j r, findS y 0 x = some j ∧ Builtin.Str.occurrences (toS x) (toS y) 0 (toS x).length 1 = j :: r) ∨ (findS y 0 x = none ∧ Builtin.Str.occurrences (toS x) (toS y) 0 (toS x).length 1 = []) := by
  rcases occ_head (toS x) (toS y) 1 (Nat.le_refl 1) with ⟨h0, hn⟩ | ⟨i, r, h0, ha, hn⟩
  · refine .inr ⟨?_, h0⟩
    cases e : findS y 0 x with
    | none => rfl
    | some j =>
      obtain ⟨i, _, h2, h3, _⟩ := findS_some y x 0 j e
      exact absurd ((at_pre x y i).mpr ⟨h2, h3⟩) (hn i)
  · refine .inl ⟨i, r, ?_, h0⟩
    obtain ⟨hi, hp⟩ := (at_pre x y i).mp ha
    cases e : findS y 0 x with
    | none =>
      have := findS_none y x 0 e i hi
      rw [hp] at this; cases this
    | some j =>
      obtain ⟨m, h1, h2, h3, h4⟩ := findS_some y x 0 j e
      have : m = i := by
        rcases Nat.lt_trichotomy m i with z | z | z
        · exact absurd ((at_pre x y m).mpr ⟨h2, h3⟩) (hn m z)
        · exact z
        · have := h4 i z
          rw [hp] at this; cases this
      subst this
      rw [h1, Nat.zero_add]
theorem inS_occ (x y : List Nat) : (!(Builtin.Str.occurrences (toS x) (toS y) 0 (toS x).length 1).isEmpty) = inS y x := by
  rw [inS_find y x 0]
  rcases occ_find x y with ⟨j, r, e, o⟩ | ⟨e, o⟩ <;> rw [e, o] <;> rfl
/-- in, by cases -/
theorem isin_cases {K : PySem.W.Frag} {H : Hp} {F : Fb} {d e : D} {x y : V} {t : Bool} (hx : RdD K H F d x) (hy : RdD K H F e y) (g : isinD d e = some t) :
    (∃ a b, x = .str (toS a) ∧ y = .str (toS b) ∧ t = inS a b) ∨ ∃ p vs, y = .ref p ∧ (SqL K H p vs ∨ SqT K H p vs) ∧ flatV x = true ∧ vs.all flatV = true ∧ t = inV x vs := by
  cases e with
  | str b =>
    cases d with
    | str a =>
      cases g
      exact .inl ⟨a, b, hx.isStr.1, hy.isStr.1, rfl⟩
    | _ => cases g
  | tup ys =>
    simp only [isinD] at g
    split at g
    · rename_i z
      simp only [Bool.and_eq_true] at z
      cases g
      obtain ⟨a, vs, rfl, q, r⟩ := hy.isTup
      exact .inr ⟨a, vs, rfl, .inr q, hx.flat z.1, r.flat z.2, (inV_D hx z.1 r z.2).symm⟩
    · cases g
  | lst ys =>
    simp only [isinD] at g
    split at g
    · rename_i z
      simp only [Bool.and_eq_true] at z
      cases g
      obtain ⟨a, vs, rfl, q, r⟩ := hy.isLst
      exact .inr ⟨a, vs, rfl, .inl q, hx.flat z.1, r.flat z.2, (inV_D hx z.1 r z.2).symm⟩
    · cases g
  | _ => cases g
theorem op_inE : OpR X (compareOp .In) (rCmp X.K .isin) := by
  intro pins s σ H x y v u Q I rx ry h
  obtain ⟨F, d, e, t, hx, hy, g, q⟩ := h
  rcases isin_cases hx hy g with ⟨a, b, rfl, rfl, rfl⟩ | ⟨p, vs, rfl, h1, h2, h3, rfl⟩
  · refine op_in_str pins s σ H _ _ v u Q I rx ry ⟨_, _, rfl, rfl, ?_⟩
    rw [inS_occ]; exact q
  · exact op_in_seq pins s σ H _ _ v u Q I rx ry ⟨p, vs, rfl, h1, h2, h3, by rw [if_neg Bool.false_ne_true]; exact q⟩
theorem op_notinE : OpR X (compareOp .NotIn) (rCmp X.K .notin) := by
  intro pins s σ H x y v u Q I rx ry h
  obtain ⟨F, d, e, t, hx, hy, g, q⟩ := h
  simp only [cmpD] at g
  cases g' : isinD d e with
  | none => rw [g'] at g; cases g
  | some t' =>
    rw [g'] at g
    cases g
    rcases isin_cases hx hy g' with ⟨a, b, rfl, rfl, rfl⟩ | ⟨p, vs, rfl, h1, h2, h3, rfl⟩
    · refine L2.op_notIn_str pins s σ H _ _ v u Q I rx ry ⟨_, _, rfl, rfl, ?_⟩
      rw [inS_occ]; exact q
    · exact op_notIn_seq pins s σ H _ _ v u Q I rx ry ⟨p, vs, rfl, h1, h2, h3, by rw [if_pos rfl]; exact q⟩

/-! ### + - * // % ** -/
theorem okS_append {a b : List Nat} (ha : okS a) (hb : okS b) : okS (a ++ b) := fun c hc => (List.mem_append.mp hc).elim (ha c) (hb c)
theorem toS_append (a b : List Nat) : toS a ++ toS b = toS (a ++ b) := by
  show Str.append _ _ = _
  simp [Str.append]
theorem op_addE : OpR X (binaryOp .Add) (rBin X.K (binD .add)) := by
  intro pins s σ H x y v u Q I rx ry h
  obtain ⟨F, d, e, p, hx, hy, g, q⟩ := h
  cases d with
  | int i =>
    cases e with
    | int j =>
      cases g
      cases hx.isInt; cases hy.isInt
      exact op_add pins s σ H _ _ v u Q I rx ry ⟨i, j, rfl, rfl, q _ H (Same.refl H) (.int _)⟩
    | _ => cases g
  | str a =>
    cases e with
    | str b =>
      simp only [binD] at g
      split at g
      · rename_i z
        cases g
        obtain ⟨rfl, oa⟩ := hx.isStr
        obtain ⟨rfl, ob⟩ := hy.isStr
        refine op_add_str pins s σ H _ _ v u Q I rx ry ⟨_, _, rfl, rfl, by rw [toS_len, toS_len, sizeLine_eq]; exact z, ?_⟩
        rw [toS_append]
        exact q _ H (Same.refl H) (.str _ (okS_append oa ob))
      · cases g
    | _ => cases g
  | tup a =>
    cases e with
    | tup b =>
      simp only [binD] at g
      split at g
      · rename_i z
        cases g
        obtain ⟨a1, vs, rfl, q1, r1⟩ := hx.isTup
        obtain ⟨a2, ws, rfl, q2, r2⟩ := hy.isTup
        refine op_catA pins s σ H _ _ v u Q I rx ry ⟨a1, a2, vs, ws, rfl, rfl, q1, q2, ?_, ?_, ?_, ?_⟩
        · rw [← r1.length, ← r2.length, sizeLine_eq]; exact z
        · rintro rfl
          cases r1
          exact q _ H (Same.refl H) (.tup q2 r2)
        · rintro _ rfl
          cases r2
          rw [List.append_nil] at q
          exact q _ H (Same.refl H) (.tup q1 r1)
        · intro _ _ pa hp
          exact q _ _ (same_upd hp) (.tup (SqT.of upd_same) ((r1.append r2).same (same_upd hp)))
      · cases g
    | _ => cases g
  | lst a =>
    cases e with
    | lst b =>
      simp only [binD] at g
      split at g
      · rename_i z
        cases g
        obtain ⟨a1, vs, rfl, q1, r1⟩ := hx.isLst'
        obtain ⟨a2, ws, rfl, q2, r2⟩ := hy.isLst'
        refine op_cat pins s σ H _ _ v u Q I rx ry ⟨a1, a2, vs, ws, rfl, rfl, q1, q2, ?_, ?_⟩
        · rw [← r1.length, ← r2.length, sizeLine_eq]; exact z
        · intro pa hp
          exact q _ _ (same_upd hp) ⟨pa, _, _, rfl, rfl, hp, upd_same, (r1.append r2).add (same_upd hp) hp⟩
      · cases g
    | _ => cases g
  | _ => cases e <;> cases g
theorem op_subE : OpR X (binaryOp .Sub) (rBin X.K (binD .sub)) := by
  intro pins s σ H x y v u Q I rx ry h
  obtain ⟨F, d, e, p, hx, hy, g, q⟩ := h
  cases d <;> cases e <;> try cases g
  cases hx.isInt; cases hy.isInt
  exact op_sub pins s σ H _ _ v u Q I rx ry ⟨_, _, rfl, rfl, q _ H (Same.refl H) (.int _)⟩
theorem op_fdivE : OpR X (binaryOp .FloorDiv) (rBin X.K (binD .fdiv)) := by
  intro pins s σ H x y v u Q I rx ry h
  obtain ⟨F, d, e, p, hx, hy, g, q⟩ := h
  cases d <;> cases e <;> simp only [binD] at g <;> try cases g
  split at g
  · rename_i z
    cases g
    cases hx.isInt; cases hy.isInt
    exact op_fdiv pins s σ H _ _ v u Q I rx ry ⟨_, _, rfl, rfl, z, q _ H (Same.refl H) (.int _)⟩
  · cases g
theorem op_modE : OpR X (binaryOp .Mod) (rBin X.K (binD .mod)) := by
  intro pins s σ H x y v u Q I rx ry h
  obtain ⟨F, d, e, p, hx, hy, g, q⟩ := h
  cases d <;> cases e <;> simp only [binD] at g <;> try cases g
  split at g
  · rename_i z
    cases g
    cases hx.isInt; cases hy.isInt
    exact op_mod pins s σ H _ _ v u Q I rx ry ⟨_, _, rfl, rfl, z, q _ H (Same.refl H) (.int _)⟩
  · cases g
theorem op_powE : OpR X (binaryOp .Pow) (rBin X.K (binD .pow)) := by
  intro pins s σ H x y v u Q I rx ry h
  obtain ⟨F, d, e, p, hx, hy, g, q⟩ := h
  cases d <;> cases e <;> simp only [binD] at g <;> try cases g
  split at g
  · rename_i z
    cases g
    cases hx.isInt; cases hy.isInt
    exact op_pow pins s σ H _ _ v u Q I rx ry ⟨_, _, rfl, rfl, ⟨z.1, z.2.1, z.2.2⟩, q _ H (Same.refl H) (.int _)⟩
  · cases g
theorem okS_rep {a : List Nat} (h : okS a) (n : Nat) : okS (repS n a) := fun c hc => by
  unfold repS at hc
  obtain ⟨l, hl, hc⟩ := List.mem_flatten.mp hc
  rw [List.mem_replicate] at hl
  rw [hl.2] at hc
  exact h c hc
theorem rep_arr (a : List Nat) : ∀ (n : Nat) (acc : Array Nat), (List.replicate n (toS a).cps).foldl (· ++ ·) acc = acc ++ (repS n a).toArray
  | 0, acc => by simp [repS]
  | n + 1, acc => by
    rw [List.replicate_succ, List.foldl_cons, rep_arr a n]
    simp [repS, List.replicate_succ, List.flatten_cons, Array.append_assoc]
theorem op_mulE : OpR X (binaryOp .Mult) (rBin X.K (binD .mul)) := by
  intro pins s σ H x y v u Q I rx ry h
  obtain ⟨F, d, e, p, hx, hy, g, q⟩ := h
  cases e with
  | int j =>
    cases d with
    | int i =>
      simp only [binD] at g
      split at g
      · rename_i z
        cases g
        cases hx.isInt; cases hy.isInt
        exact op_mul pins s σ H _ _ v u Q I rx ry ⟨_, _, rfl, rfl, z, q _ H (Same.refl H) (.int _)⟩
      · cases g
    | str a =>
      simp only [binD] at g
      split at g
      · rename_i z
        cases g
        obtain ⟨rfl, oa⟩ := hx.isStr
        cases hy.isInt
        obtain ⟨t, rfl⟩ := rx
        obtain ⟨t', rfl⟩ := ry
        have hj1 : ¬ j < 1 := by omega
        by_cases hj : j = 1
        · subst hj
          refine PySem.P.mul_str (by decide) (fun _ k => by simp at k) (fun _ k => by simp at k) ?_
          rw [if_neg (by decide), if_pos (by simp)]
          refine ⟨.str (toS a), H, I.tok _, ⟨_, rfl⟩, ?_⟩
          have e1 : repS (Int.toNat 1) a = a := by simp [repS]
          rw [e1] at q
          exact q _ H (Same.refl H) (.str a oa)
        · have hc : (j == 1 || (toS a).length == 0) = false := by
            rw [toS_len]
            simp only [Bool.or_eq_false_iff, beq_eq_false_iff_ne]
            exact ⟨hj, by omega⟩
          refine PySem.P.mul_str ?_ (fun _ _ => ?_) (fun _ _ => ?_) ?_
          · simp only [Bool.or_eq_false_iff, decide_eq_false_iff_not]; omega
          · rw [toS_len]
            have h2 : a.length ≤ 1000000 := by
              have : a.length * 1 ≤ a.length * j.toNat := Nat.mul_le_mul_left _ (by omega)
              omega
            have h4 : (1000000 : Int) ≤ (2 ^ 63 - 1) / j := (Int.le_ediv_iff_mul_le (by omega)).mpr (by omega)
            omega
          · rw [toS_len]
            unfold Builtin.Str.tooLong
            simp only [decide_eq_false_iff_not]
            rw [sizeLine_eq]
            omega
          · rw [if_neg hj1, if_neg (by rw [hc]; exact Bool.false_ne_true), rep_arr]
            have e1 : (#[] : Array Nat) ++ (repS j.toNat a).toArray = (repS j.toNat a).toArray := by simp
            rw [e1]
            have el : (repS j.toNat a).length = a.length * j.toNat := by simp [repS, Nat.mul_comm]
            refine ⟨by show (toS (repS j.toNat a)).length ≤ sizeLine; rw [toS_len, el, sizeLine_eq]; omega, ?_⟩
            exact ⟨.str (toS (repS j.toNat a)), H, I.tok _, ⟨_, rfl⟩, q _ H (Same.refl H) (.str _ (okS_rep oa _))⟩
      · cases g
    | lst a =>
      simp only [binD] at g
      split at g
      · rename_i z
        cases g
        obtain ⟨a1, vs, rfl, q1, r1⟩ := hx.isLst'
        cases hy.isInt
        refine op_rep pins s σ H _ _ v u Q I rx ry ⟨a1, j, vs, rfl, rfl, q1, by omega, by omega, ?_, ?_⟩
        · rw [← r1.length, sizeLine_eq]; exact z.2.2
        · intro pa hp
          exact q _ _ (same_upd hp) ⟨pa, _, _, rfl, rfl, hp, upd_same, (r1.rep j.toNat).add (same_upd hp) hp⟩
      · cases g
    | _ => cases g
  | _ => cases d <;> cases g
end
end Ev
end

section
set_option Elab.async false
set_option linter.all false
set_option maxRecDepth 100000
set_option maxHeartbeats 1000000
/-! Ev1d: stars, slices, calls, built-ins, methods. -/
namespace Ev
open PySem PySem.Spec L2
section
variable {X : Cx} {xs : Exs} {W : WX} {cl : Cl} {a b c : Expr} {pos : Pos}

/-! ### *e -/
theorem vRes {K : PySem.W.Frag} {H₀ H : Hp} {F : Fb} {Own : List Addr} : ∀ {ds : List D} {vs : List V}, RepVs K H F ds vs → Paired (fun p v => Res K H₀ H F Own p v) (ds.map fun d => (Kd.v, d)) vs
  | _, _, .nil => .nil
  | _, _, .cons h r => .cons h (vRes r)
theorem pairedApp {α β : Type} {P : α → β → Prop} : ∀ {l m : List α} {r s : List β}, Paired P l r → Paired P m s → Paired P (l ++ m) (r ++ s)
  | _, _, _, _, .nil, h => h
  | _, _, _, _, .cons h t, q => .cons h (pairedApp t q)
theorem ca_star {e : Expr} {es : List Expr} {ie : E} {ies : Es} {p : Pos} (ha : CE xs W cl X e ie) (hr : PA X es (SRs xs X.K W (evEs cl ies))) (hs : starEach (.Starred e p :: es) X.env = (true, eval e X.env) :: starEach es X.env) :
    PA X (.Starred e p :: es) (SRs xs X.K W (evEs cl (.cons true ie ies))) := by
  refine paImp (StX.pa_star ha hr hs) fun σ H Q => ?_
  rintro ⟨ρ, F, Own, hs, h⟩
  simp only [evEs] at h
  refine ⟨ρ, F, Own, hs, h.bind.imp fun p _ h => ?_⟩
  intro x H1 s1 r1
  obtain ⟨k, d⟩ := p
  have go : ∀ (q : Addr) (ws : List V) (ds : List D), x = .ref q → (SqT X.K H1 q ws ∨ SqL X.K H1 q ws) → RepVs X.K H1 F ds ws → starL true (k, d) = some (ds.map fun d => (Kd.v, d)) →
      ∃ p xs_1, x = V.ref p ∧ (SqT X.K H1 p xs_1 ∨ SqL X.K H1 p xs_1) ∧ SRs xs X.K W (evEs cl ies) σ H1 fun ys H2 => Q (xs_1 ++ ys) H2 := by
    intro q ws ds e1 e2 e3 e4
    rw [e4] at h
    have h : After xs X.K W σ H ((evEs cl ies ρ).bind fun ps => .ok (ds.map (fun d => (Kd.v, d)) ++ ps)) _ := h
    refine ⟨q, ws, e1, e2, ρ, F, Own, hs.same s1, (After.move s1 h.bind).imp fun ps _ h => ?_⟩
    intro vs H2 s2 r2
    exact h _ H2 (s1.trans s2) (pairedApp (vRes (e3.same s2)) (Res.aheads s1 r2))
  cases d with
  | tup ds =>
    obtain ⟨q, ws, e1, e2, e3⟩ := r1.rd.isTup
    exact go q ws ds e1 (.inl e2) e3 rfl
  | lst ds =>
    obtain ⟨q, ws, e1, e2, e3⟩ := r1.rd.isLst
    exact go q ws ds e1 (.inr e2) e3 rfl
  | _ => exact h.elim

/-! ### slices -/
def rSlD (K : PySem.W.Frag) : V → Option Int → Option Int → Hp → VK → Prop := fun x lo hi H Q => ∃ F d p, RdD K H F d x ∧ slcD d lo hi = some p ∧ ∀ v H', Same H H' → Res K H H' F [] p v → Q v H'
theorem sIxD (n d : Nat) (o : Option Int) : HT.sIx n d o = sEnd n d o := by cases o <;> rfl
theorem cut_reps {K : PySem.W.Frag} {H : Hp} {F : Fb} {ds : List D} {vs : List V} (r : RepVs K H F ds vs) (lo hi : Option Int) : RepVs K H F (cutL ds lo hi) (cutV vs lo hi) := by
  unfold cutL cutV
  simp only [sIxD, r.length]
  exact (r.drop _).take _
theorem okS_cut {s : List Nat} (h : okS s) (lo hi : Option Int) : okS (cutL s lo hi) := fun c hc => h c (List.mem_of_mem_drop (List.mem_of_mem_take hc))
theorem cutS_D (s : List Nat) (lo hi : Option Int) : cutS (toS s) lo hi = toS (cutL s lo hi) := by
  unfold cutS cutL
  simp only [sIxD, tl_toS, toS_len]
theorem sl_D : SlR X (rSlD X.K) := by
  intro pins s σ H x v vl vu lo hi sl Q I rx hs pl pu h
  obtain ⟨F, d, p, hx, g, q⟩ := h
  cases d with
  | tup ds =>
    cases g
    obtain ⟨a, vs, rfl, q1, r⟩ := hx.isTup
    refine sl_tupA pins s σ H _ v vl vu lo hi sl Q I rx hs pl pu ⟨a, vs, rfl, q1, fun w => ?_, fun _ p hp => ?_⟩
    · have e : cutL ds lo hi = ds := by
        unfold cutL
        rw [← sIxD, ← sIxD, r.length, w.1, w.2]
        simp [← r.length]
      rw [e] at q
      exact q _ H (Same.refl H) (.tup q1 r)
    · exact q _ _ (same_upd hp) (.tup (SqT.of upd_same) ((cut_reps r lo hi).same (same_upd hp)))
  | lst ds =>
    cases g
    obtain ⟨a, vs, rfl, q1, r⟩ := hx.isLst
    refine sl_list pins s σ H _ v vl vu lo hi sl Q I rx hs pl pu ⟨a, vs, rfl, q1, fun p hp => ?_⟩
    exact q _ _ (same_upd hp) ⟨p, _, _, rfl, rfl, hp, upd_same, (cut_reps r lo hi).add (same_upd hp) hp⟩
  | str z =>
    simp only [slcD] at g
    split at g
    · rename_i hz
      cases g
      obtain ⟨rfl, ok⟩ := hx.isStr
      refine sl_str pins s σ H _ v vl vu lo hi sl Q I rx hs pl pu ⟨_, rfl, by rw [toS_len, sizeLine_eq]; exact hz, ?_⟩
      rw [cutS_D]
      exact q _ H (Same.refl H) (.str _ (okS_cut ok lo hi))
    · cases g
  | _ => cases g
/-- a slice's end, left out or an int -/
def SO (xs : Exs) (K : PySem.W.Frag) (W : WX) (cl : Cl) (e : E) : TO := fun σ H Q =>
  ∃ ρ F Own, StE K H F ρ σ Own ∧ After xs K W σ H (evE cl e ρ) fun p => ∃ o, partOf e p.2 = some o ∧ ∀ H', Same H H' → Q o H'
theorem co_none : PO X none (SO xs X.K W cl .nope) := ⟨fun pins s σ H Q I h => po_none.run pins s σ H Q I (by
  obtain ⟨ρ, F, Own, hs, o, e, k⟩ := h
  cases e
  exact k H (Same.refl H))⟩
theorem partInt {e : E} {d : D} {o : Option Int} (hn : e ≠ .nope) (h : partOf e d = some o) : ∃ i, d = .int i ∧ o = some i := by
  unfold partOf at h
  split at h
  · exact absurd rfl hn
  · cases h; exact ⟨_, rfl, rfl⟩
  · cases h
theorem co_some {ia : E} (ha : CE xs W cl X a ia) (hn : ia ≠ .nope) : PO X (some a) (SO xs X.K W cl ia) := ⟨fun pins s σ H Q I h => (po_some ha).run pins s σ H Q I (by
  obtain ⟨ρ, F, Own, hs, h⟩ := h
  refine ⟨ρ, F, Own, hs, h.imp fun p e h => ?_⟩
  intro v H' s r
  obtain ⟨o, e1, k⟩ := h
  obtain ⟨i, e2, rfl⟩ := partInt hn e1
  have r2 := r.rd
  rw [e2] at r2
  exact ⟨i, r2.isInt, k H' s⟩)⟩
theorem ce_slc {ia il ih : E} {lo hi : Option Expr} {p2 : Pos} (ha : CE xs W cl X a ia) (hl : PO X lo (SO xs X.K W cl il)) (hh : PO X hi (SO xs X.K W cl ih)) : CE xs W cl X (.Subscript a (.Slice lo hi none p2) pos) (.slc ia il ih) := by
  refine peImp (pe_slice sl_D ha hl hh) fun σ H Q => ?_
  rintro ⟨ρ, F, Own, hs, h⟩
  simp only [evE] at h
  refine ⟨ρ, F, Own, hs, h.bind.imp fun p _ h => ?_⟩
  intro x H1 s1 r1
  refine ⟨ρ, F, Own, hs.same s1, (After.move s1 h.bind).imp fun q _ h => ?_⟩
  cases e1 : partOf il q.2 with
  | none => rw [e1] at h; exact h.elim
  | some l =>
    rw [e1] at h
    refine ⟨l, rfl, fun H2 s2 => ?_⟩
    have h : After xs X.K W σ H ((evE cl ih ρ).bind fun r => match partOf ih r.2 with | some h => okK (slcD p.2 l h) | none => .stuck) _ := h
    refine ⟨ρ, F, Own, (hs.same s1).same s2, (After.move (s1.trans s2) h.bind).imp fun r _ h => ?_⟩
    cases e2 : partOf ih r.2 with
    | none => rw [e2] at h; exact h.elim
    | some u =>
      refine ⟨u, rfl, fun H3 s3 => ?_⟩
      rw [e2] at h
      have h : After xs X.K W σ H (okK (slcD p.2 l u)) _ := h
      have s := (s1.trans s2).trans s3
      unfold okK at h
      split at h
      · rename_i d e3
        exact ⟨F, p.2, d, r1.rd.same (s2.trans s3), e3, fun v H' s' r' => h v H' (s.trans s') (r'.nob.ahead s)⟩
      · exact h.elim

/-! ### calls of the text's own defs -/
/-- the arguments ahead: nio lists that are handed over, then values that stay -/
inductive ArgR (K : PySem.W.Frag) (H : Hp) (F : Fb) : Nat → List D → List V → List Addr → Prop
  | nil {ds : List D} {vs : List V} : RepVs K H F ds vs → ArgR K H F 0 ds vs []
  | cons {n : Nat} {a : Addr} {ws : List V} {es ds : List D} {vs : List V} {os : List Addr} : H a = some (.lst ws) → RepVs K H F es ws → ArgR K H F n ds vs os → ArgR K H F (n + 1) (.lst es :: ds) (.ref a :: vs) (a :: os)
/-- the lists that were handed over, as they stand behind -/
inductive OutR (K : PySem.W.Frag) (H : Hp) (F : Fb) : List D → List Addr → Prop
  | nil : OutR K H F [] []
  | cons {a : Addr} {ws : List V} {es ds : List D} {os : List Addr} : H a = some (.lst ws) → RepVs K H F es ws → OutR K H F ds os → OutR K H F (.lst es :: ds) (a :: os)
/-- what a def promises: that its computation is what comes -/
def spD (xs : Exs) (K : PySem.W.Frag) (cl : Cl) (f nio np : Nat) : Sp := fun vs H Q E => vs.length = np ∧
  ∃ (ds : List D) (F : Fb) (os : List Addr), ArgR K H F nio ds vs os ∧ os.Nodup ∧ (∀ a ∈ os, F a) ∧ (∀ a, F a → H a ≠ none) ∧
    match cl f ds with
    | .ok r => ∀ v H', Keep os H H' → Res K H H' F [] (r.1, r.2.1) v → OutR K H' F r.2.2 os → Q v H'
    | .exn x a => ∀ cls dd H', Keep os H H' → ExR xs K H' x a cls dd → E cls dd H'
    | .stuck => False
theorem keep_same {H H' : Hp} (h : Keep [] H H') : Same H H' := fun b o e => h b o e (by simp)
/-- arguments that are read alone -/
theorem argsV {K : PySem.W.Frag} {H₀ H : Hp} {F : Fb} {Own : List Addr} (hF : ∀ a, F a → H₀ a ≠ none) : ∀ {ps : List (Kd × D)} {vs : List V}, Paired (fun p v => Res K H₀ H F Own p v) ps vs → hasB ps = false → RepVs K H F (ps.map (·.2)) vs
  | _, _, .nil, _ => .nil
  | (k, d) :: ps, _, .cons r t, e => by
    simp only [hasB, List.any_cons, Bool.or_eq_false_iff, beq_eq_false_iff_ne] at e
    exact .cons (Res.solid e.1 hF r) (argsV hF t (by simpa [hasB] using e.2))
/-- .. where some are lists that the caller owns: nothing of them may come back -/
theorem argsB {K : PySem.W.Frag} {H₀ H : Hp} {F : Fb} {Own : List Addr} : ∀ {ps : List (Kd × D)} {vs : List V}, Paired (fun p v => Res K H₀ H F Own p v) ps vs → RepVs K H (fun _ => False) (ps.map (·.2)) vs
  | _, _, .nil => .nil
  | (k, d) :: ps, _, .cons r t => by
    refine .cons ?_ (argsB t)
    cases k with
    | v => exact RepV.less (fun _ z => z.elim) r
    | f =>
      obtain ⟨a, vs, ds, e, rfl, n, h, q⟩ := r
      cases e
      exact .lst h (fun z => z) (q.less fun _ z => z.elim)
    | b =>
      obtain ⟨a, vs, ds, e, rfl, n, h, q⟩ := r
      cases e
      exact .lst h (fun z => z) (q.less fun _ z => z.elim)
theorem ce_call {cx : CXT} {x : Str} {p : Pos} {k : Nat} {f : Addr} {fd : FuncData} {ps : List Str} {j np : Nat} {e : Expr} {es : List Expr} {ies : Es} (F : FnOk X.prog X.w X.K X.mg X.base (L2.CX X.prog X.w) k f fd ps (spD xs X.K cl j 0 np)) (hr : Room k X.A) (tk : Takes X W)
    (hg : Gl X x) (hm : X.mg x = some (.ref f)) (hk : PySem.W.keepIn X.K (.ref f) = true) (hb : Binds X.K fd ps []) (ha : PA X (e :: es) (SRs xs X.K W (evEs cl ies))) (hdb : (x == ("__debug__" : Str)) = false)
    (he : starEach (e :: es) X.env = (false, eval e X.env) :: starEach es X.env) (hpl : (backTo pos (starEach es X.env)).any (·.1) = false) (hn : ∀ ρ ps, evEs cl ies ρ = .ok ps → ps.length = np) :
    CE xs W cl X (.Call (.Name x p) (e :: es) [] pos) (.call j ies) := by
  refine peImp (pe_callS F hr hg hm hk hb (fun σ => passAt tk σ) ha hdb he hpl) fun σ H Q => ?_
  rintro ⟨ρ, F, Own, hs, h⟩
  simp only [evE] at h
  refine ⟨ρ, F, Own, hs, h.bind.imp fun ps e1 h => ?_⟩
  intro vs H1 s1 r1
  have hl : vs.length = ps.length := (Paired.length r1).symm
  have h := h.bind
  refine ⟨by rw [hl, hn ρ ps e1], ps.map (·.2), ?_⟩
  revert h
  cases e2 : cl j (ps.map (·.2)) with
  | stuck => exact fun h => h.elim
  | exn y a =>
    intro h
    refine ⟨fun _ => False, [], .nil (argsB r1), List.nodup_nil, by simp, fun _ z => z.elim, ?_⟩
    intro cls dd H' kp ex
    exact h cls dd H' (s1.trans (keep_same kp)) ex
  | ok r =>
    intro h
    obtain ⟨k', d, os⟩ := r
    have h : After xs X.K W σ H (afterCall (hasB ps) (k', d, os)) _ := h
    cases eb : hasB ps with
    | false =>
      rw [eb] at h
      refine ⟨F, [], .nil (argsV hs.ex r1 eb), List.nodup_nil, by simp, fun a z => (hs.same s1).ex a z, ?_⟩
      intro v H' kp rs os'
      cases os' 
      have h : After xs X.K W σ H (afterCall false (k', d, [])) _ := h
      cases k' with
      | b => exact h.elim
      | v => exact h v H' (s1.trans (keep_same kp)) rs
      | f => exact h v H' (s1.trans (keep_same kp)) (rs.nob.ahead s1)
    | true =>
      rw [eb] at h
      refine ⟨fun _ => False, [], .nil (argsB r1), List.nodup_nil, by simp, fun _ z => z.elim, ?_⟩
      intro v H' kp rs os'
      cases os'
      cases k' with
      | b => exact h.elim
      | v =>
        have h : After xs X.K W σ H (if lf d = true then .ok (Kd.v, d) else .stuck) _ := h
        split at h
        · rename_i hl
          exact h v H' (s1.trans (keep_same kp)) (RepV.free rs hl)
        · exact h.elim
      | f =>
        have h : After xs X.K W σ H (if lf1 d = true then .ok (Kd.f, d) else .stuck) _ := h
        split at h
        · rename_i hl
          obtain ⟨a, ws, ds, rfl, rfl, n, hh, q⟩ := rs
          exact h _ H' (s1.trans (keep_same kp)) ⟨a, ws, ds, rfl, rfl, s1.free n, hh, q.free (by simpa [lf1] using hl)⟩
        · exact h.elim

/-! ### built-ins -/
def rBl (K : PySem.W.Frag) (o : Blt) : List V → Hp → VK → Prop := fun vs H Q => ∃ (F : Fb) (ds : List D) (d : D), Paired (fun d v => RdD K H F d v) ds vs ∧ bltD o ds = some d ∧ ∀ v H', Same H H' → RepV K H' F d v → Q v H'
theorem rds {K : PySem.W.Frag} {H₀ H : Hp} {F : Fb} {Own : List Addr} : ∀ {ps : List (Kd × D)} {vs : List V}, Paired (fun p v => Res K H₀ H F Own p v) ps vs → Paired (fun d v => RdD K H F d v) (ps.map (·.2)) vs
  | _, _, .nil => .nil
  | _, _, .cons r t => .cons r.rd (rds t)
theorem bltRead {o : Blt} {ies : Es} {σ : L2.St} {H : Hp} {Q : VK} (h : SR xs X.K W (evE cl (.blt o ies)) σ H Q) : tCB (rBl X.K o) (SRs xs X.K W (evEs cl ies)) σ H Q := by
  obtain ⟨ρ, F, Own, hs, h⟩ := h
  simp only [evE] at h
  refine ⟨ρ, F, Own, hs, h.bind.imp fun ps _ h => ?_⟩
  intro vs H1 s1 r1
  unfold okV at h
  split at h
  · rename_i d e
    exact ⟨F, _, d, rds r1, e, fun v H' s r => h v H' (s1.trans s) r⟩
  · exact h.elim
theorem ce_bltB {id : String} {x : Str} {p : Pos} {o : Blt} {e : Expr} {es : List Expr} {ies : Es} (hc : CallR X (.builtin id) (rBl X.K o)) (hg : Gl X x) (hm : X.mg x = none) (hv : bootBuiltins x = some (.builtin id)) (ha : PA X (e :: es) (SRs xs X.K W (evEs cl ies)))
    (hn : x ≠ "__name__") (hdb : (x == ("__debug__" : Str)) = false) (he : starEach (e :: es) X.env = (false, eval e X.env) :: starEach es X.env) (hpl : (backTo pos (starEach es X.env)).any (·.1) = false) : CE xs W cl X (.Call (.Name x p) (e :: es) [] pos) (.blt o ies) :=
  peImp (pe_callB hc hg hm hv ha hn hdb he hpl) fun _ _ _ h => bltRead h
theorem ce_bltT {T : String} {x : Str} {p : Pos} {o : Blt} {e : Expr} {es : List Expr} {ies : Es} (hc : CallR X (.type T) (rBl X.K o)) (hg : Gl X x) (hm : X.mg x = none) (hv : bootBuiltins x = some (.type T)) (ha : PA X (e :: es) (SRs xs X.K W (evEs cl ies)))
    (hn : x ≠ "__name__") (hdb : (x == ("__debug__" : Str)) = false) (he : starEach (e :: es) X.env = (false, eval e X.env) :: starEach es X.env) (hpl : (backTo pos (starEach es X.env)).any (·.1) = false) : CE xs W cl X (.Call (.Name x p) (e :: es) [] pos) (.blt o ies) :=
  peImp (pe_callTy hc hg hm hv ha hn hdb he hpl) fun _ _ _ h => bltRead h
/-- one argument -/
theorem oneArg {K : PySem.W.Frag} {H : Hp} {F : Fb} {d : D} {vs : List V} (h : Paired (fun d v => RdD K H F d v) [d] vs) : ∃ v, vs = [v] ∧ RdD K H F d v := by
  cases h with
  | cons r t => cases t; exact ⟨_, rfl, r⟩
theorem bl_len : CallR X (.builtin "len") (rBl X.K .len) := by
  intro pins s σ H vs us Q I r h
  obtain ⟨F, ds, d, hd, g, q⟩ := h
  unfold bltD at g
  split at g <;> try (rename_i z; cases z; done)
  · obtain ⟨v, rfl, rv⟩ := oneArg hd
    split at g
    · rename_i hz
      cases g
      obtain ⟨rfl, ok⟩ := rv.isStr
      refine call_len_str pins s σ H _ us Q I r ⟨_, rfl, by rw [toS_len, sizeLine_eq]; exact hz, ?_⟩
      rw [toS_len]
      exact q _ H (Same.refl H) (.int _)
    · cases g
  · cases g
    obtain ⟨v, rfl, rv⟩ := oneArg hd
    obtain ⟨a, vs, rfl, q1, r1⟩ := rv.isTup
    refine call_len_seq pins s σ H _ us Q I r ⟨a, vs, rfl, .inr q1, ?_⟩
    rw [← r1.length]
    exact q _ H (Same.refl H) (.int _)
  · cases g
    obtain ⟨v, rfl, rv⟩ := oneArg hd
    obtain ⟨a, vs, rfl, q1, r1⟩ := rv.isLst
    refine call_len_seq pins s σ H _ us Q I r ⟨a, vs, rfl, .inl q1, ?_⟩
    rw [← r1.length]
    exact q _ H (Same.refl H) (.int _)
  · cases g
    obtain ⟨v, rfl, rv⟩ := oneArg hd
    obtain ⟨a, rfl, q1⟩ := rv.isScr
    refine call_len_seq pins s σ H _ us Q I r ⟨a, _, rfl, .inl q1, ?_⟩
    rw [List.length_map]
    exact q _ H (Same.refl H) (.int _)
  all_goals cases g
end
end Ev
end

section
set_option Elab.async false
set_option linter.all false
set_option maxRecDepth 100000
set_option maxHeartbeats 1000000
/-! Ev1e: further built-ins, isinstance, methods of texts. -/
namespace Ev
open PySem PySem.Spec L2 TL
section
variable {X : Cx} {xs : Exs} {W : WX} {cl : Cl} {a b c : Expr} {pos : Pos}
theorem bl_int1 : CallR X (.type "int") (rBl X.K .int1) := by
  intro pins s σ H vs us Q I r h
  obtain ⟨F, ds, d, hd, g, q⟩ := h
  unfold bltD at g
  split at g <;> try (rename_i z; cases z; done)
  · cases g
    obtain ⟨v, rfl, rv⟩ := oneArg hd
    cases rv.isInt
    exact call_int1 pins s σ H _ us Q I r (.inl ⟨_, rfl, q _ H (Same.refl H) (.int _)⟩)
  · cases g
    obtain ⟨v, rfl, rv⟩ := oneArg hd
    cases rv.isBl
    exact call_int1 pins s σ H _ us Q I r (.inr ⟨_, rfl, q _ H (Same.refl H) (.int _)⟩)
  all_goals cases g
theorem okS_small {l : List Nat} (h : ∀ c ∈ l, c < 128) : okS l := fun c hc => Nat.lt_of_lt_of_le (h c hc) (by decide)
theorem str1_inv {ds : List D} {d : D} (h : bltD .str1 ds = some d) : ∃ i : Int, ds = [.int i] ∧ 0 ≤ i ∧ i < 1000000000000000000000000000000 ∧ d = .str (digs i.toNat) := by
  cases ds with
  | nil => cases h
  | cons a r =>
    cases r with
    | nil =>
      cases a with
      | int i =>
        simp only [bltD] at h
        split at h
        · rename_i hz
          cases h
          exact ⟨i, rfl, hz.1, hz.2, rfl⟩
        · cases h
      | _ => cases h
    | cons b r => cases a <;> cases h
theorem bl_str1 : CallR X (.type "str") (rBl X.K .str1) := by
  intro pins s σ H vs us Q I r h
  obtain ⟨F, ds, d, hd, g, q⟩ := h
  obtain ⟨i, rfl, h0, h1, rfl⟩ := str1_inv g
  obtain ⟨v, rfl, rv⟩ := oneArg hd
  cases rv.isInt
  obtain ⟨n, rfl⟩ : ∃ n : Nat, i = (n : Int) := ⟨i.toNat, by omega⟩
  refine call_str_int pins s σ H _ us Q I r ⟨_, rfl, ?_, ?_⟩
  · rw [Int.natAbs_natCast]
    by_cases h0 : n = 0
    · subst h0; decide
    · have h1 : n < 2 ^ 100 := by
        have : (1000000000000000000000000000000 : Nat) < 2 ^ 100 := by decide
        omega
      have := (Nat.log2_lt h0).mpr h1
      omega
  · have e : (toString ((n : Nat) : Int) : Str) = toS (digs n) := by
      have h := tl_num n
      rw [← toS_tl (Str.ofString (toString ((n : Nat) : Int)))]
      exact congrArg toS h
    rw [e]
    exact q _ H (Same.refl H) (.str _ (okS_small fun c hc => by
      have := numL_digits n c hc
      omega))
theorem bl_any1 (hc : X.calm = true) : CallR X (.builtin "any") (rBl X.K .any1) := by
  intro pins s σ H vs us Q I r h
  obtain ⟨F, ds, d, hd, g, q⟩ := h
  unfold bltD at g
  split at g <;> try (rename_i z; cases z; done)
  · split at g
    · rename_i bs e
      cases g
      obtain ⟨v, rfl, rv⟩ := oneArg hd
      obtain ⟨a, ws, rfl, q1, r1⟩ := rv.isLst
      refine cr_any hc pins s σ H _ us Q I r ⟨a, bs, rfl, ?_, q _ H (Same.refl H) (.bl _)⟩
      have key : ∀ {ds : List D} {ws : List V} {bs : List Bool}, RepVs X.K H F ds ws → allBl ds = some bs → ws = bs.map V.bl := by
        intro ds
        induction ds with
        | nil => intro ws bs r e; cases r; cases e; rfl
        | cons d ds ih =>
          intro ws bs r e
          cases r with
          | cons h t =>
            cases d with
            | bl b =>
              simp only [allBl] at e
              split at e
              · rename_i bs' e'
                cases e
                cases h
                rw [ih t e']
                rfl
              · cases e
            | _ => cases e
      rw [← key r1 e]
      exact q1
    · cases g
  all_goals cases g
theorem bl_tuple1 : CallR X (.type "tuple") (rBl X.K .tuple1) := by
  intro pins s σ H vs us Q I r h
  obtain ⟨F, ds, d, hd, g, q⟩ := h
  unfold bltD at g
  split at g <;> try (rename_i z; cases z; done)
  · cases g
    obtain ⟨v, rfl, rv⟩ := oneArg hd
    obtain ⟨a, ws, rfl, q1, r1⟩ := rv.isTup
    exact call_tuple_of pins s σ H _ us Q I r ⟨a, ws, rfl, .inr ⟨q1, q _ H (Same.refl H) (.tup q1 r1)⟩⟩
  · cases g
    obtain ⟨v, rfl, rv⟩ := oneArg hd
    obtain ⟨a, ws, rfl, q1, r1⟩ := rv.isLst
    exact call_tuple_of pins s σ H _ us Q I r ⟨a, ws, rfl, .inl ⟨q1, fun l hl => q _ _ (same_upd hl) (.tup (SqT.of upd_same) (r1.same (same_upd hl)))⟩⟩
  all_goals cases g

/-! ### isinstance -/
def tyN : D → String
  | .non => "NoneType"
  | .bl _ => "bool"
  | .int _ => "int"
  | .str _ => "str"
  | .tup _ => "tuple"
  | .lst _ => "list"
  | .scr _ => "list"
def tN : Ty → String
  | .tint => "int"
  | .tstr => "str"
  | .tbool => "bool"
  | .tlist => "list"
  | .ttuple => "tuple"
theorem kit_all (d : D) (hd : ∀ ns, d ≠ .scr ns) (t : Ty) : kitB (tyN d) (tN t) = some (isiD d t) := by
  cases d <;> (try exact absurd rfl (hd _)) <;> cases t <;> simp only [tyN, tN, isiD] <;> decide +kernel
theorem RdD.tyX {K : PySem.W.Frag} {H : Hp} {F : Fb} {d : D} {v : V} (r : RdD K H F d v) (hd : ∀ ns, d ≠ .scr ns) : TyX K H v (.type (tyN d)) := by
  cases d with
  | non => cases r.isNon; exact .base .non
  | bl b => cases r.isBl; exact .base (.bl b)
  | int b => cases r.isInt; exact .base (.int b)
  | str b => cases r.isStr.1; exact .base (.str _)
  | tup ds =>
    obtain ⟨a, ws, rfl, q1, r1⟩ := r.isTup
    rcases q1 with (q1 | ⟨o, q1⟩) | ⟨o, its, n, q1, q2, _⟩
    · exact .base (.tup q1)
    · exact .fTuple q1
    · exact .kTuple q1 q2
  | lst ds =>
    obtain ⟨a, ws, rfl, q1, r1⟩ := r.isLst'
    exact .base (.lst q1)
  | scr ns => exact absurd rfl (hd ns)
theorem kit_any {K : PySem.W.Frag} (d : D) (hd : ∀ ns, d ≠ .scr ns) : ∀ ts : List Ty, PySem.W.kitAny K (.type (tyN d)) (ts.map fun t => Value.type (tN t)) = some (ts.any fun t => isiD d t)
  | [] => rfl
  | t :: ts => by
    refine kitAny_cons (kit_ty (kit_all d hd t)) (fun e => ?_) fun e => ?_
    · rw [kit_any d hd ts, List.any_cons, e, Bool.false_or]
    · rw [List.any_cons, e, Bool.true_or]

theorem starNo {b : Expr} {env : Env} (h : ∀ e p, b ≠ .Starred e p) (r : List Expr) : starEach (b :: r) env = (false, eval b env) :: starEach r env := by
  cases b <;> first | rfl | exact absurd rfl (h _ _)
/-- isinstance(a, T) -/
theorem ce_isi1 {x y : Str} {p p2 : Pos} {ia : E} {t : Ty} (hg : Gl X x) (hm : X.mg x = none) (hv : bootBuiltins x = some (.builtin "isinstance")) (hgy : Gl X y) (hmy : X.mg y = none) (hvy : bootBuiltins y = some (.type (tN t)))
    (hn : x ≠ "__name__") (hdb : (x == ("__debug__" : Str)) = false) (hny : y ≠ "__name__") (hdy : (y == ("__debug__" : Str)) = false) (ha : CE xs W cl X a ia) (hs : ∀ e p, a ≠ .Starred e p) :
    CE xs W cl X (.Call (.Name x p) [a, .Name y p2] [] pos) (.isi ia [t]) := by
  have hy : PE X (.Name y p2) (tC (.ty (tN t))) := pe_bltn hgy hmy hvy rfl hny hdy
  refine peImp (pe_callB call_isi hg hm hv (pa_cons ha (pa_cons hy pa_nil rfl) (starNo hs _)) hn hdb (starNo hs _) rfl) fun σ H Q => ?_
  rintro ⟨ρ, F, Own, hs, h⟩
  simp only [evE] at h
  refine ⟨ρ, F, Own, hs, h.bind.imp fun q e1 h => ?_⟩
  intro v H1 s1 r1
  cases e0 : isScr q.2 with
  | true => rw [e0] at h; exact h.elim
  | false =>
  have hd : ∀ ns, q.2 ≠ .scr ns := fun ns z => by rw [z] at e0; cases e0
  rw [e0] at h
  have h : ∀ v H', Same H H' → Res X.K H H' F Own (.v, .bl ([t].any fun t => isiD q.2 t)) v → Q v H' := h
  refine ⟨v, .ty (tN t), _, .type (tN t), isiD q.2 t, rfl, .ty _, r1.rd.tyX hd, kit_ty (kit_all q.2 hd t), ?_⟩
  have e : ([t].any fun t => isiD q.2 t) = isiD q.2 t := by simp
  rw [e] at h
  exact h _ H1 s1 (.bl _)
/-- isinstance(a, (S, T)) -/
theorem ce_isi2 {x y z : Str} {p p2 p3 p4 : Pos} {k : Nat} {ia : E} {t u : Ty} (hg : Gl X x) (hm : X.mg x = none) (hv : bootBuiltins x = some (.builtin "isinstance")) (hgy : Gl X y) (hmy : X.mg y = none) (hvy : bootBuiltins y = some (.type (tN t)))
    (hgz : Gl X z) (hmz : X.mg z = none) (hvz : bootBuiltins z = some (.type (tN u)))
    (hn : x ≠ "__name__") (hdb : (x == ("__debug__" : Str)) = false) (hny : y ≠ "__name__") (hdy : (y == ("__debug__" : Str)) = false) (hnz : z ≠ "__name__") (hdz : (z == ("__debug__" : Str)) = false) (ha : CE xs W cl X a ia) (hs : ∀ e p, a ≠ .Starred e p) :
    CE xs W cl X (.Call (.Name x p) [a, .Tuple [.Name y p2, .Name z p3] k p4] [] pos) (.isi ia [t, u]) := by
  have hy : PE X (.Name y p2) (tC (.ty (tN t))) := pe_bltn hgy hmy hvy rfl hny hdy
  have hz : PE X (.Name z p3) (tC (.ty (tN u))) := pe_bltn hgz hmz hvz rfl hnz hdz
  refine peImp (pe_callB call_isiT hg hm hv (pa_cons ha (pa_cons (pe_tup (pa_cons hy (pa_cons hz pa_nil rfl) rfl)) pa_nil rfl) (starNo hs _)) hn hdb (starNo hs _) rfl) fun σ H Q => ?_
  rintro ⟨ρ, F, Own, hs, h⟩
  simp only [evE] at h
  refine ⟨ρ, F, Own, hs, h.bind.imp fun q e1 h => ?_⟩
  intro v H1 s1 r1
  cases e0 : isScr q.2 with
  | true => rw [e0] at h; exact h.elim
  | false =>
  have hd : ∀ ns, q.2 ≠ .scr ns := fun ns z => by rw [z] at e0; cases e0
  rw [e0] at h
  have h : ∀ v H', Same H H' → Res X.K H H' F Own (.v, .bl ([t, u].any fun t => isiD q.2 t)) v → Q v H' := h
  refine ⟨by show 2 ≤ sizeLine; decide, fun tp htp => ?_⟩
  have s2 := same_upd (o := .tup [V.ty (tN t), .ty (tN u)]) htp
  refine ⟨v, tp, _, _, _, _, rfl, upd_same, .cons (.ty _) (.cons (.ty _) .nil), (r1.rd.same s2).tyX hd, kit_any q.2 hd [t, u], ?_⟩
  exact h _ _ (s1.trans s2) (.bl _)

/-! ### methods of texts -/
def rMt (K : PySem.W.Frag) (m : Mth) : V → List V → Hp → VK → Prop := fun x vs H Q => ∃ (F : Fb) (d : D) (ds : List D) (p : Kd × D), RdD K H F d x ∧ Paired (fun d v => RdD K H F d v) ds vs ∧ mthD m d ds = some p ∧ ∀ v H', Same H H' → Res K H H' F [] p v → Q v H'
theorem mthStr {m : Mth} {d : D} {ds : List D} {p : Kd × D} (h : mthD m d ds = some p) : ∃ s, d = .str s := by
  cases d with
  | str s => exact ⟨s, rfl⟩
  | _ => cases m <;> cases h
theorem mtRead {m : Mth} {ia : E} {ies : Es} {σ : L2.St} {H : Hp} {Q : VK} (hm : m ≠ .replace) (h : SR xs X.K W (evE cl (.mth m ia ies)) σ H Q) : tBM X.K "str" (rMt X.K m) (SR xs X.K W (evE cl ia)) (SRs xs X.K W (evEs cl ies)) σ H Q := by
  obtain ⟨ρ, F, Own, hs, h⟩ := h
  simp only [evE] at h
  refine ⟨ρ, F, Own, hs, h.bind.imp fun p _ h => ?_⟩
  intro x H1 s1 r1
  cases e0 : p.2 with
  | str z =>
    have rd := r1.rd
    rw [e0] at rd h
    refine ⟨by rw [rd.isStr.1]; rfl, ρ, F, Own, hs.same s1, (After.move s1 (After.bind (r := evEs cl ies ρ) h)).imp fun ps _ h => ?_⟩
    intro vs H2 s2 r2
    unfold okK at h
    split at h
    · rename_i d e
      exact ⟨F, .str z, _, d, rd.same s2, rds r2, e, fun v H' s r => h v H' ((s1.trans s2).trans s) (r.nob.ahead (s1.trans s2))⟩
    · exact h.elim
  | _ => rw [e0] at h; exact h.elim
theorem ce_mth {m : Mth} {name : Str} {id : String} {o e : Expr} {es : List Expr} {apos cpos : Pos} {ia : E} {ies : Es} (hm : m ≠ .replace) (slot : PySem.Slot "str" name id) (hty : typeOf (.builtin id) = pure (.type "method_descriptor")) (hr : MtR X id (rMt X.K m)) (ho : CE xs W cl X o ia) (ha : PA X (e :: es) (SRs xs X.K W (evEs cl ies)))
    (hbase : attributeBase o name X.env (eval o X.env) = eval o X.env)
    (hfew : ((backTo cpos (starEach (e :: es) X.env)).all (fun x => !x.1) && (backToKw cpos (keywordEach [] X.env)).all (fun x => x.1.isSome) && decide ((e :: es).length + ([] : List Keyword).length + (if ([] : List Keyword).isEmpty then 0 else 1) < 30)) = true)
    (hline : (apos.endLine == cpos.line) = true) (hs : starEach (e :: es) X.env = (false, eval e X.env) :: starEach es X.env) (hplain : (backTo cpos (starEach es X.env)).any (·.1) = false) :
    CE xs W cl X (.Call (.Attribute o name apos) (e :: es) [] cpos) (.mth m ia ies) :=
  peImp (pe_bm PySem.F.plainAttrs_str slot hty hr ho ha hbase hfew hline hs hplain) fun _ _ _ h => mtRead hm h
/-! the four -/
theorem hsS {S : List Nat} : ∀ (k : Nat) (acc l : List Nat), splS S k acc l = spl S k acc l
  | 0, acc, [] => rfl
  | _ + 1, acc, [] => rfl
  | 0, acc, c :: r => by
    simp only [splS, spl]
    split
    · rename_i h; rw [if_pos (show pre S (c :: r) = true from h), hsS]
    · rename_i h; rw [if_neg (show ¬ pre S (c :: r) = true from h), hsS]
  | k + 1, acc, _ :: r => by simp only [splS, spl]; exact hsS k acc r
theorem okS_spl {S : List Nat} : ∀ (l : List Nat) (k : Nat) (acc : List Nat), okS l → okS acc → ∀ p ∈ splS S k acc l, okS p
  | [], 0, acc, _, ha, p, hp => by simp [splS] at hp; subst hp; exact ha
  | [], _ + 1, acc, _, ha, p, hp => by simp [splS] at hp; subst hp; exact ha
  | c :: r, 0, acc, h, ha, p, hp => by
    have hr : okS r := fun x hx => h x (List.mem_cons_of_mem _ hx)
    simp only [splS] at hp
    split at hp
    · rcases List.mem_cons.mp hp with rfl | hp
      · exact ha
      · exact okS_spl r _ [] hr (fun x hx => by cases hx) p hp
    · exact okS_spl r _ _ hr (fun x hx => by
        rcases List.mem_append.mp hx with z | z
        · exact ha x z
        · have := List.mem_singleton.mp z
          subst this
          exact h _ (List.mem_cons_self ..)) p hp
  | c :: r, k + 1, acc, h, ha, p, hp => by
    simp only [splS] at hp
    exact okS_spl r k acc (fun x hx => h x (List.mem_cons_of_mem _ hx)) ha p hp
theorem strReps {K : PySem.W.Frag} {H : Hp} {F : Fb} : ∀ {l : List (List Nat)}, (∀ p ∈ l, okS p) → RepVs K H F (l.map .str) (l.map fun p => V.str (toS p))
  | [], _ => .nil
  | p :: l, h => .cons (.str p (h p (List.mem_cons_self ..))) (strReps fun q hq => h q (List.mem_cons_of_mem _ hq))
theorem twoArg {K : PySem.W.Frag} {H : Hp} {F : Fb} {d e : D} {vs : List V} (h : Paired (fun d v => RdD K H F d v) [d, e] vs) : ∃ v u, vs = [v, u] ∧ RdD K H F d v ∧ RdD K H F e u := by
  cases h with
  | cons r t =>
    obtain ⟨u, rfl, q⟩ := oneArg t
    exact ⟨_, _, rfl, r, q⟩
theorem split_inv {x : List Nat} {ds : List D} {p : Kd × D} (h : mthD .split (.str x) ds = some p) : ∃ y : List Nat, ds = [.str y] ∧ 1 ≤ y.length ∧ x.length + 2 ≤ szl ∧ y.all (· < 256) = true ∧ p = (.f, .lst ((splS y 0 [] x).map .str)) := by
  cases ds with
  | nil => cases h
  | cons a r =>
    cases r with
    | nil =>
      cases a with
      | str y =>
        simp only [mthD] at h
        split at h
        · rename_i hz
          cases h
          exact ⟨y, rfl, hz.1, hz.2.1, hz.2.2, rfl⟩
        · cases h
      | _ => cases h
    | cons b r => cases a <;> cases h
theorem mt_splitE : MtR X "str.split" (rMt X.K .split) := by
  intro pins s σ H x vs v us Q I rx rs h
  obtain ⟨F, d, ds, p, hx, hd, g, q⟩ := h
  obtain ⟨z, rfl⟩ := mthStr g
  obtain ⟨y, rfl, h1, h2, h3, rfl⟩ := split_inv g
  obtain ⟨u, rfl, ru⟩ := oneArg hd
  obtain ⟨rfl, ok⟩ := hx.isStr
  obtain ⟨rfl, ok2⟩ := ru.isStr
  have hk : ¬ Builtin.Str.strKind (toS z) < Builtin.Str.strKind (toS y) := kind_ok (by simpa using h3)
  have hne : tl (toS y) ≠ [] := fun w => by
    have e : y = [] := by simpa [tl] using w
    rw [e] at h1
    simp at h1
  have hl : ((toS y).length == 0) = false := by
    rw [toS_len]
    exact beq_eq_false_iff_ne.mpr (by omega)
  refine mt_split pins s σ H _ _ v us Q I rx rs ⟨_, _, rfl, rfl, hl, by rw [toS_len, sizeLine_eq]; exact h2, fun p hp => ?_⟩
  have e := split_spl (toS z) (toS y) hne hk
  have e4 : Txt.split (toS z) (toS y) = (splS y 0 [] z).map toS := by
    apply map_tl_inj
    rw [e, ← hsS, List.map_map]
    have e5 : tl ∘ toS = id := by funext l; simp [tl]
    rw [e5, List.map_id]
  rw [e4, List.map_map]
  have hr : RepVs X.K H F ((splS y 0 [] z).map .str) ((splS y 0 [] z).map fun p => V.str (toS p)) := strReps (okS_spl z 0 [] ok fun x hx => by cases hx)
  exact q _ _ (same_upd hp) ⟨p, _, _, rfl, rfl, hp, upd_same, hr.add (same_upd hp) hp⟩
theorem join_inv {y : List Nat} {ds : List D} {p : Kd × D} (h : mthD .join (.str y) ds = some p) : ∃ (es : List D) (l : List (List Nat)), (ds = [.lst es] ∨ ds = [.tup es]) ∧ allStr es = some l ∧ sumLen l + y.length * l.length ≤ 1000000 ∧ p = (.v, .str (joinS y l)) := by
  cases ds with
  | nil => cases h
  | cons a r =>
    cases r with
    | nil =>
      cases a with
      | lst es =>
        simp only [mthD] at h
        split at h
        · rename_i l e
          split at h
          · rename_i hz
            cases h
            exact ⟨es, l, .inl rfl, e, hz, rfl⟩
          · cases h
        · cases h
      | tup es =>
        simp only [mthD] at h
        split at h
        · rename_i l e
          split at h
          · rename_i hz
            cases h
            exact ⟨es, l, .inr rfl, e, hz, rfl⟩
          · cases h
        · cases h
      | _ => cases h
    | cons b r => cases a <;> cases h
theorem allStr_rep {K : PySem.W.Frag} {H : Hp} {F : Fb} : ∀ {ds : List D} {vs : List V} {l : List (List Nat)}, RepVs K H F ds vs → allStr ds = some l → vs = (l.map toS).map V.str ∧ ∀ p ∈ l, okS p
  | _, _, _, .nil, e => by cases e; exact ⟨rfl, fun p hp => by cases hp⟩
  | d :: ds, _, l, .cons h r, e => by
    cases d with
    | str b =>
      simp only [allStr] at e
      split at e
      · rename_i l' e'
        cases e
        obtain ⟨h1, h2⟩ := allStr_rep r e'
        cases h with
        | str _ ok =>
          refine ⟨by rw [h1]; rfl, fun p hp => ?_⟩
          rcases List.mem_cons.mp hp with rfl | hp
          · exact ok
          · exact h2 p hp
      · cases e
    | _ => cases e
theorem sum_lens : ∀ l : List (List Nat), (((l.map toS).map (·.length)).sum : Nat) = sumLen l
  | [] => rfl
  | x :: r => by simp only [List.map_cons, List.sum_cons, sumLen, toS_len, sum_lens r]
theorem joinS_eq (y : List Nat) : ∀ l : List (List Nat), Txt.join (toS y) (l.map toS) = toS (joinS y l) := by
  intro l
  rw [join_eq]
  induction l with
  | nil => rfl
  | cons x r ih =>
    cases r with
    | nil => rfl
    | cons z r =>
      show toS x ++ toS y ++ Str.join (toS y) ((z :: r).map toS) = _
      rw [ih, toS_append, toS_append]
      rfl
theorem okS_join {y : List Nat} (hy : okS y) : ∀ {l : List (List Nat)}, (∀ p ∈ l, okS p) → okS (joinS y l)
  | [], _ => fun c hc => by cases hc
  | [x], h => h x (List.mem_cons_self ..)
  | x :: z :: r, h => okS_append (okS_append (h x (List.mem_cons_self ..)) hy) (okS_join hy fun p hp => h p (List.mem_cons_of_mem _ hp))
theorem mt_joinE : MtR X "str.join" (rMt X.K .join) := by
  intro pins s σ H x vs v us Q I rx rs h
  obtain ⟨F, d, ds, p, hx, hd, g, q⟩ := h
  obtain ⟨y, rfl⟩ := mthStr g
  obtain ⟨es, l, he, e, hz, rfl⟩ := join_inv g
  obtain ⟨rfl, ok⟩ := hx.isStr
  have fin : ∀ (a : Addr) (ws : List V), RepVs X.K H F es ws → (SqL X.K H a ws ∨ SqT X.K H a ws) → vs = [.ref a] → wpAny (model X.prog X.w) X.A (call (.builtin "str.join") (v :: us)) (EP X pins σ Q) X.xe s := by
    intro a ws r hq ev
    obtain ⟨e1, e2⟩ := allStr_rep r e
    subst e1
    refine mt_join pins s σ H _ _ v us Q I rx rs ⟨_, a, l.map toS, rfl, ev, hq, ?_, ?_⟩
    · rw [sum_lens, List.length_map, toS_len, Nat.mul_comm]; omega
    · rw [joinS_eq]
      exact q _ H (Same.refl H) (.str _ (okS_join ok e2))
  rcases he with rfl | rfl
  · obtain ⟨u, rfl, ru⟩ := oneArg hd
    obtain ⟨a, ws, rfl, q1, r1⟩ := ru.isLst
    exact fin a ws r1 (.inl q1) rfl
  · obtain ⟨u, rfl, ru⟩ := oneArg hd
    obtain ⟨a, ws, rfl, q1, r1⟩ := ru.isTup
    exact fin a ws r1 (.inr q1) rfl
theorem find_inv {x : List Nat} {ds : List D} {p : Kd × D} (h : mthD .find (.str x) ds = some p) : ∃ y : List Nat, ds = [.str y] ∧ p = (.v, .int (match findS y 0 x with | some k => (k : Int) | none => -1)) := by
  cases ds with
  | nil => cases h
  | cons a r =>
    cases r with
    | nil =>
      cases a with
      | str y =>
        simp only [mthD] at h
        refine ⟨y, rfl, ?_⟩
        cases e : findS y 0 x with
        | none => rw [e] at h; cases h; rfl
        | some k => rw [e] at h; cases h; rfl
      | _ => cases h
    | cons b r => cases a <;> cases h
theorem mt_findE : MtR X "str.find" (rMt X.K .find) := by
  intro pins s σ H x vs v us Q I rx rs h
  obtain ⟨F, d, ds, p, hx, hd, g, q⟩ := h
  obtain ⟨z, rfl⟩ := mthStr g
  obtain ⟨y, rfl, rfl⟩ := find_inv g
  obtain ⟨u, rfl, ru⟩ := oneArg hd
  obtain ⟨rfl, ok⟩ := hx.isStr
  obtain ⟨rfl, ok2⟩ := ru.isStr
  refine mt_find pins s σ H _ _ v us Q I rx rs ⟨_, _, rfl, rfl, ?_⟩
  have e : Txt.find (toS z) (toS y) = (match findS y 0 z with | some k => (k : Int) | none => -1) := by
    unfold Txt.find
    rcases occ_find z y with ⟨j, r, e1, e2⟩ | ⟨e1, e2⟩ <;> rw [e1, e2]
  rw [e]
  exact q _ H (Same.refl H) (.int _)
end
end Ev
end

section
set_option Elab.async false
set_option linter.all false
set_option maxRecDepth 100000
set_option maxHeartbeats 1000000
/-! Ev1f: what is walked; comprehensions. -/
namespace Ev
open PySem PySem.Spec L2

/-! ### a name takes a value -/
section
variable {K : PySem.W.Frag} {H H' : Hp} {F F' : Fb}
theorem EnvR.setV {d : D} {v : V} (hv : RepV K H F d v) : ∀ {ρ : List Slot} {σ : List (Option V)} {os : List Addr} (i : Nat), EnvR K H F ρ σ os → ∃ os', EnvR K H F (ρ.set i (.val d)) (σ.set i (some v)) os' ∧ os'.Sublist os
  | _, _, _, _, .nil => ⟨[], .nil, .slnil⟩
  | _, _, os, 0, .emp r => ⟨os, .val hv r, List.Sublist.refl _⟩
  | _, _, os, 0, .val _ r => ⟨os, .val hv r, List.Sublist.refl _⟩
  | _, _, _, 0, .own _ _ r => ⟨_, .val hv r, List.sublist_cons_self _ _⟩
  | _, _, _, 0, .lck _ _ r => ⟨_, .val hv r, List.sublist_cons_self _ _⟩
  | _, _, _, i + 1, .emp r => let ⟨o, a, b⟩ := EnvR.setV hv i r; ⟨o, .emp a, b⟩
  | _, _, _, i + 1, .val h r => let ⟨o, a, b⟩ := EnvR.setV hv i r; ⟨o, .val h a, b⟩
  | _, _, _, i + 1, .own h q r => let ⟨o, a, b⟩ := EnvR.setV hv i r; ⟨_, .own h q a, b.cons_cons _⟩
  | _, _, _, i + 1, .lck h q r => let ⟨o, a, b⟩ := EnvR.setV hv i r; ⟨_, .lck h q a, b.cons_cons _⟩
theorem EnvR.setN {x : Option V} : ∀ {ρ : List Slot} {σ : List (Option V)} {os : List Addr} (i : Nat), EnvR K H F ρ σ os → ∃ os', EnvR K H F (ρ.set i .none) (σ.set i x) os' ∧ os'.Sublist os
  | _, _, _, _, .nil => ⟨[], .nil, .slnil⟩
  | _, _, os, 0, .emp r => ⟨os, .emp r, List.Sublist.refl _⟩
  | _, _, os, 0, .val _ r => ⟨os, .emp r, List.Sublist.refl _⟩
  | _, _, _, 0, .own _ _ r => ⟨_, .emp r, List.sublist_cons_self _ _⟩
  | _, _, _, 0, .lck _ _ r => ⟨_, .emp r, List.sublist_cons_self _ _⟩
  | _, _, _, i + 1, .emp r => let ⟨o, a, b⟩ := EnvR.setN i r; ⟨o, .emp a, b⟩
  | _, _, _, i + 1, .val h r => let ⟨o, a, b⟩ := EnvR.setN i r; ⟨o, .val h a, b⟩
  | _, _, _, i + 1, .own h q r => let ⟨o, a, b⟩ := EnvR.setN i r; ⟨_, .own h q a, b.cons_cons _⟩
  | _, _, _, i + 1, .lck h q r => let ⟨o, a, b⟩ := EnvR.setN i r; ⟨_, .lck h q a, b.cons_cons _⟩
theorem EnvR.wipe {ρ : List Slot} {σ : List (Option V)} {os : List Addr} (h : EnvR K H F ρ σ os) : ∀ vs : List Nat, ∃ os', EnvR K H F (wipeS ρ vs) (L2.wipe σ vs) os' ∧ os'.Sublist os
  | [] => ⟨os, h, List.Sublist.refl _⟩
  | v :: vs => by
    obtain ⟨o1, h1, s1⟩ := EnvR.wipe h vs
    obtain ⟨o2, h2, s2⟩ := EnvR.setN (x := none) v h1
    exact ⟨o2, h2, s2.trans s1⟩
end

/-! ### targets -/
def tgAll : List Nat → TGs
  | [] => gNil
  | i :: is => gCons (gName i) (tgAll is)
def tgOf (K : PySem.W.Frag) : Tg → TG
  | .one i => gName i
  | .tup is => gTup K is.length (tgAll is)
def setSig : Tg → V → List V → L2.St → L2.St
  | .one i, v, _, σ => σ.set i (some v)
  | .tup is, _, vs, σ => List.foldl (fun (r : L2.St) (p : Nat × V) => r.set p.1 (some p.2)) σ (is.zip vs)
theorem tgAll_ok {K : PySem.W.Frag} {H : Hp} {F : Fb} : ∀ {is : List Nat} {ds : List D} {vs : List V} {ρ : List Slot} {σ : L2.St} {os : List Addr} {Q : L2.St → Hp → Prop}, RepVs K H F ds vs → ds.length = is.length → EnvR K H F ρ σ os →
    (∀ os', EnvR K H F (List.foldl (fun (r : List Slot) (p : Nat × D) => r.set p.1 (.val p.2)) ρ (is.zip ds)) (List.foldl (fun (r : L2.St) (p : Nat × V) => r.set p.1 (some p.2)) σ (is.zip vs)) os' → os'.Sublist os → Q (List.foldl (fun (r : L2.St) (p : Nat × V) => r.set p.1 (some p.2)) σ (is.zip vs)) H) →
    tgAll is vs σ H Q
  | [], [], _, ρ, σ, os, Q, .nil, _, h, q => ⟨rfl, q os h (List.Sublist.refl _)⟩
  | [], _ :: _, _, _, _, _, _, _, e, _, _ => by simp at e
  | _ :: _, [], _, _, _, _, _, _, e, _, _ => by simp at e
  | i :: is, d :: ds, _, ρ, σ, os, Q, .cons hd ht, e, h, q => by
    obtain ⟨o1, h1, s1⟩ := EnvR.setV hd i h
    refine ⟨_, _, rfl, ?_⟩
    exact tgAll_ok ht (by simpa using e) h1 fun os' h2 s2 => q os' h2 (s2.trans s1)
theorem tg_ok {K : PySem.W.Frag} {H : Hp} {F : Fb} {tg : Tg} {d : D} {v : V} {ρ ρ' : List Slot} {σ : L2.St} {os : List Addr} {Q : L2.St → Hp → Prop} (hv : RepV K H F d v) (e : setTg tg d ρ = some ρ') (h : EnvR K H F ρ σ os)
    (q : ∀ vs os', EnvR K H F ρ' (setSig tg v vs σ) os' → os'.Sublist os → Q (setSig tg v vs σ) H) : tgOf K tg v σ H Q := by
  cases tg with
  | one i =>
    cases e
    obtain ⟨o1, h1, s1⟩ := EnvR.setV hv i h
    exact q [] o1 h1 s1
  | tup is =>
    cases d with
    | tup ds =>
      simp only [setTg] at e
      split at e
      · rename_i hl
        cases e
        cases hv with
        | tup hq hr =>
          refine ⟨_, _, rfl, hq, by rw [← hr.length, hl], ?_⟩
          exact tgAll_ok hr hl h fun os' h2 s2 => q _ os' h2 s2
      · cases e
    | _ => cases e
theorem wipe_get (σ : L2.St) (i : Nat) : ∀ vs : List Nat, (wipe σ vs)[i]? = if i ∈ vs then (σ[i]?).map (fun _ => none) else σ[i]?
  | [] => by simp [wipe]
  | v :: vs => by
    unfold wipe
    rw [List.getElem?_set, wipe_length, wipe_get σ i vs]
    by_cases h : v = i
    · subst h
      by_cases hl : v < σ.length
      · simp [hl]
      · simp [hl]
    · have h2 : i ≠ v := fun z => h z.symm
      simp [h, h2]
/-- the target's names are among those that are wiped -/
def tgIn : Tg → List Nat → Bool
  | .one i, vs => decide (i ∈ vs)
  | .tup is, vs => is.all fun i => decide (i ∈ vs)
/-- alike but for wiped names -/
theorem wipe_ext {σ τ : L2.St} {vs : List Nat} (hl : τ.length = σ.length) (h : ∀ i, i ∉ vs → τ[i]? = σ[i]?) : wipe τ vs = wipe σ vs := by
  apply List.ext_getElem?
  intro i
  rw [wipe_get, wipe_get]
  split
  · by_cases hi : i < σ.length
    · have e1 : σ[i]? = some σ[i] := List.getElem?_eq_getElem hi
      have e2 : τ[i]? = some (τ[i]'(by rw [hl]; exact hi)) := List.getElem?_eq_getElem _
      rw [e1, e2]; rfl
    · rw [List.getElem?_eq_none (by omega), List.getElem?_eq_none (by omega)]
  · rename_i hn; exact h i hn
theorem wipe_tg (σ : L2.St) (vs : List Nat) {tg : Tg} (h : tgIn tg vs = true) (v : V) (ws : List V) : wipe (setSig tg v ws (wipe σ vs)) vs = wipe σ vs := by
  have base : ∀ i, i ∉ vs → (wipe σ vs)[i]? = σ[i]? := fun i hi => by rw [wipe_get, if_neg hi]
  cases tg with
  | one j =>
    have hj : j ∈ vs := by simpa [tgIn] using h
    refine wipe_ext (by simp [setSig, wipe_length]) fun i hi => ?_
    have hne : j ≠ i := fun z => hi (z ▸ hj)
    simp only [setSig]
    rw [List.getElem?_set_ne hne, base i hi]
  | tup is =>
    have hs : ∀ i ∈ is, i ∈ vs := by simpa [tgIn] using h
    have go : ∀ (is : List Nat) (ws : List V) (τ : L2.St), (∀ i ∈ is, i ∈ vs) → (List.foldl (fun (r : L2.St) (p : Nat × V) => r.set p.1 (some p.2)) τ (is.zip ws)).length = τ.length ∧
        ∀ i, i ∉ vs → (List.foldl (fun (r : L2.St) (p : Nat × V) => r.set p.1 (some p.2)) τ (is.zip ws))[i]? = τ[i]? := by
      intro is
      induction is with
      | nil => intro ws τ _; exact ⟨rfl, fun _ _ => rfl⟩
      | cons j is ih =>
        intro ws τ hs
        cases ws with
        | nil => exact ⟨rfl, fun _ _ => rfl⟩
        | cons w ws =>
          obtain ⟨h1, h2⟩ := ih ws (τ.set j (some w)) fun i hi => hs i (List.mem_cons_of_mem _ hi)
          refine ⟨by rw [List.zip_cons_cons, List.foldl_cons, h1, List.length_set], fun i hi => ?_⟩
          have hne : j ≠ i := fun z => hi (z ▸ hs j (List.mem_cons_self ..))
          rw [List.zip_cons_cons, List.foldl_cons, h2 i hi, List.getElem?_set_ne hne]
    obtain ⟨h1, h2⟩ := go is ws (wipe σ vs) hs
    exact wipe_ext (by simp only [setSig]; rw [h1, wipe_length]) fun i hi => by simp only [setSig]; rw [h2 i hi, base i hi]

/-! ### what is walked -/
inductive Src where
  | lst (a : Addr) | tup (a : Addr) | str (z : List Nat) | rng (lo : Int) (n : Nat)
def Src.it (K : PySem.W.Frag) : Src → It
  | .lst a => Itl K a
  | .tup a => Itt K a
  | .str z => Its (toS z)
  | .rng lo n => Itr lo n
def SrcR (K : PySem.W.Frag) (H : Hp) (F : Fb) : Src → List D → Prop
  | .lst a, ds => ∃ vs, H a = some (.lst vs) ∧ RepVs K H F ds vs
  | .tup a, ds => ∃ vs, SqT K H a vs ∧ RepVs K H F ds vs
  | .str z, ds => okS z ∧ ds = z.map fun c => .str [c]
  | .rng lo n, ds => ds = rngL lo n
theorem rngL_len : ∀ (n : Nat) (lo : Int), (rngL lo n).length = n
  | 0, _ => rfl
  | n + 1, lo => by simp [rngL, rngL_len n]
theorem rngL_get : ∀ (n : Nat) (lo : Int) (i : Nat), i < n → (rngL lo n)[i]? = some (.int (lo + i))
  | 0, _, _, h => absurd h (Nat.not_lt_zero _)
  | n + 1, lo, 0, _ => by simp [rngL]
  | n + 1, lo, i + 1, h => by
    show (rngL (lo + 1) n)[i]? = _
    rw [rngL_get n (lo + 1) i (by omega)]
    congr 2
    omega
section
variable {K : PySem.W.Frag} {H : Hp} {F : Fb} {src : Src} {ds : List D} {i : Nat}
theorem SrcR.go (h : SrcR K H F src ds) (hi : i < ds.length) : (src.it K).go i H := by
  cases src with
  | lst a =>
    obtain ⟨vs, e, r⟩ := h
    exact ⟨vs, vs[i]'(by rw [← r.length]; exact hi), SqL.of e, by simp⟩
  | tup a =>
    obtain ⟨vs, e, r⟩ := h
    exact ⟨vs, vs[i]'(by rw [← r.length]; exact hi), e, by simp⟩
  | str z =>
    obtain ⟨_, rfl⟩ := h
    show i < (toS z).cps.size
    simpa using hi
  | rng lo n =>
    cases h
    show i < n
    rw [rngL_len] at hi
    exact hi
theorem SrcR.stop (h : SrcR K H F src ds) (hi : ds.length ≤ i) : (src.it K).stop i H := by
  cases src with
  | lst a =>
    obtain ⟨vs, e, r⟩ := h
    exact ⟨vs, SqL.of e, by rw [← r.length]; exact hi⟩
  | tup a =>
    obtain ⟨vs, e, r⟩ := h
    exact ⟨vs, e, by rw [← r.length]; exact hi⟩
  | str z =>
    obtain ⟨_, rfl⟩ := h
    show (toS z).cps.size ≤ i
    simpa using hi
  | rng lo n =>
    cases h
    show n ≤ i
    rw [rngL_len] at hi
    exact hi
theorem SrcR.yld (h : SrcR K H F src ds) {x : V} {H' : Hp} {d : D} (hd : ds[i]? = some d) (y : (src.it K).yld i H x H') : H' = H ∧ RepV K H F d x := by
  cases src with
  | lst a =>
    obtain ⟨vs, e, r⟩ := h
    obtain ⟨e1, y⟩ := y
    obtain ⟨w, e2, r2⟩ := r.get hd
    have := y vs (SqL.of e)
    rw [e2] at this
    cases this
    exact ⟨e1, r2⟩
  | tup a =>
    obtain ⟨vs, e, r⟩ := h
    obtain ⟨e1, y⟩ := y
    obtain ⟨w, e2, r2⟩ := r.get hd
    have := y vs e
    rw [e2] at this
    cases this
    exact ⟨e1, r2⟩
  | str z =>
    obtain ⟨ok, rfl⟩ := h
    obtain ⟨e1, c, e2, rfl⟩ := y
    have e3 : z[i]? = some c := by simpa using e2
    rw [List.getElem?_map, e3] at hd
    cases hd
    exact ⟨e1, .str [c] fun k hk => by
      have := List.mem_singleton.mp hk
      subst this
      exact ok _ (List.mem_of_getElem? e3)⟩
  | rng lo n =>
    cases h
    obtain ⟨e1, rfl⟩ := y
    have hi : i < n := by
      have := (List.getElem?_eq_some_iff.mp hd).1
      rw [rngL_len] at this
      exact this
    rw [rngL_get n lo i hi] at hd
    cases hd
    exact ⟨e1, .int _⟩
theorem SrcR.move {H' : Hp} {F' : Fb} (t : ∀ a o, H a = some o → ((∃ ys, o = .tup ys) ∨ ∃ ob u, o = .frz ob u) → H' a = some o) (l : ∀ a o, H a = some o → ¬ F a → H' a = some o ∧ ¬ F' a) (s : ∀ a, src = .lst a → H' a = H a) (h : SrcR K H F src ds) : SrcR K H' F' src ds := by
  cases src with
  | lst a =>
    obtain ⟨vs, e, r⟩ := h
    exact ⟨vs, by rw [s a rfl]; exact e, r.move t l⟩
  | tup a =>
    obtain ⟨vs, e, r⟩ := h
    exact ⟨vs, SqT.same (t _) e, r.move t l⟩
  | str z => exact h
  | rng lo n => exact h
end
/-- the reading of what is walked -/
def SI (xs : Exs) (K : PySem.W.Frag) (W : WX) (g : List Slot → R (List (Kd × D))) (k : Itk) : TI := fun σ H R =>
  ∃ ρ F Own, StE K H F ρ σ Own ∧ After xs K W σ H (g ρ) fun ps => ∃ ds, itemsOf k (ps.map (·.2)) = some ds ∧ ∀ src H', Same H H' → SrcR K H' F src ds →
    (∀ a, src = .lst a → hasB ps = false → a ∉ Own) → R (src.it K) H'
theorem piImp {X : Cx} {tg e : Expr} {t t' : TI} (h : PI X tg e t) (f : ∀ σ H R, t' σ H R → t σ H R) : PI X tg e t' := ⟨fun pins s σ H R I q => h.run pins s σ H R I (f _ _ _ q)⟩
section
variable {X : Cx} {xs : Exs} {W : WX} {cl : Cl} {tg : Expr}
/-- a list, a tuple, a text: whatever comes -/
theorem piAny {e : Expr} {te : TE} (he : PE X e te) : PI X tg e (fun σ H R => te σ H fun x H1 =>
    (∃ a, x = .ref a ∧ (∃ ys, SqL X.K H1 a ys) ∧ R (Itl X.K a) H1) ∨ (∃ a, x = .ref a ∧ (∃ ys, SqT X.K H1 a ys) ∧ R (Itt X.K a) H1) ∨ ∃ z, x = .str z ∧ R (Its z) H1) := by
  refine ⟨fun pins s σ H R I h => ?_⟩
  refine thn (he.run pins s σ H _ I h) fun v s1 hv => ?_
  obtain ⟨x, H1, I1, r1, hx⟩ := hv
  rcases hx with ⟨a, rfl, ⟨ys, hq⟩, q⟩ | ⟨a, rfl, ⟨ys, hq⟩, q⟩ | ⟨z, rfl, q⟩
  · cases r1
    obtain ⟨its, rv, pl, hz⟩ := I1.list hq
    exact wpAny_pyIter_list pl.isList (pi_one (tk := s1.toks) I1 _ (turn_list a _) ⟨_, Heap.get?_push_size _ rfl, rfl, rfl⟩ q)
  · cases r1
    obtain ⟨its, rv, pl, hz⟩ := I1.tuple hq
    exact wpAny_pyIter_tuple (show s1.heap.IsTuple a its.toArray from pl) (pi_one (tk := s1.toks) I1 _ (turn_tuple a _) ⟨_, Heap.get?_push_size _ rfl, rfl, rfl⟩ q)
  · obtain ⟨t, rfl⟩ := r1
    cases ha : z.cps.all (· < 128)
    · exact wpAny_pyIter_wide ha (pi_one (tk := s1.toks) I1 _ (turn_str _ z t "str_iterator" (.inr rfl)) ⟨_, Heap.get?_push_size _ rfl, rfl, rfl⟩ q)
    · exact wpAny_pyIter_ascii ha (pi_one (tk := s1.toks) I1 _ (turn_str _ z t "str_ascii_iterator" (.inl rfl)) ⟨_, Heap.get?_push_size _ rfl, rfl, rfl⟩ q)
theorem seq_inv {l : List D} {ds : List D} (h : itemsOf .seq l = some ds) : (l = [.lst ds]) ∨ (l = [.tup ds]) ∨ ∃ z, l = [.str z] ∧ ds = z.map fun c => .str [c] := by
  cases l with
  | nil => cases h
  | cons a r =>
    cases r with
    | nil =>
      cases a with
      | lst es => cases h; exact .inl rfl
      | tup es => cases h; exact .inr (.inl rfl)
      | str z => cases h; exact .inr (.inr ⟨z, rfl, rfl⟩)
      | _ => cases h
    | cons b r => cases a <;> cases h
theorem rng1_inv {l : List D} {ds : List D} (h : itemsOf .rng1 l = some ds) : ∃ j, l = [.int j] ∧ z62 j = true ∧ ds = rngL 0 j.toNat := by
  cases l with
  | nil => cases h
  | cons a r =>
    cases r with
    | nil =>
      cases a with
      | int j =>
        simp only [itemsOf] at h
        split at h
        · rename_i hz; cases h; exact ⟨j, rfl, hz, rfl⟩
        · cases h
      | _ => cases h
    | cons b r => cases a <;> cases h
theorem rng2_inv {l : List D} {ds : List D} (h : itemsOf .rng2 l = some ds) : ∃ i j, l = [.int i, .int j] ∧ z62 i = true ∧ z62 j = true ∧ ds = rngL i (j - i).toNat := by
  cases l with
  | nil => cases h
  | cons a r =>
    cases r with
    | nil => cases a <;> cases h
    | cons b r =>
      cases r with
      | nil =>
        cases a with
        | int i =>
          cases b with
          | int j =>
            simp only [itemsOf, Bool.and_eq_true] at h
            split at h
            · rename_i hz; cases h; exact ⟨i, j, rfl, hz.1, hz.2, rfl⟩
            · cases h
          | _ => cases h
        | _ => cases b <;> cases h
      | cons c r => cases a <;> cases b <;> cases h
theorem ci_seq {e : Expr} {ie : E} (he : CE xs W cl X e ie) : PI X tg e (SI xs X.K W (evEs cl (.cons false ie .nil)) .seq) := by
  refine piImp (piAny he) fun σ H R => ?_
  rintro ⟨ρ, F, Own, hs, h⟩
  simp only [evEs] at h
  refine ⟨ρ, F, Own, hs, h.bind.imp fun p _ h => ?_⟩
  intro v H1 s1 r1
  obtain ⟨ds, e1, k⟩ := h
  rcases seq_inv e1 with e2 | e2 | ⟨z, e2, rfl⟩
  · have e3 : p.2 = .lst ds := by simpa using e2
    have rd := r1.rd
    rw [e3] at rd
    obtain ⟨a, vs, rfl, q1, q2⟩ := rd.isLst'
    refine .inl ⟨a, rfl, ⟨vs, SqL.of q1⟩, k (.lst a) H1 s1 ⟨vs, q1, q2⟩ fun a' ea hb => ?_⟩
    cases ea
    obtain ⟨kk, d⟩ := p
    cases kk with
    | b => cases hb
    | v =>
      have r1 : RepV X.K H1 F d (.ref a) := r1
      have e3 : d = .lst ds := e3
      subst e3
      cases r1 with
      | lst _ nf _ => exact fun z => nf (hs.sub _ z)
    | f =>
      obtain ⟨a2, vs2, ds2, _, e3, n, _⟩ := r1
      cases e3
      exact fun z => hs.ex _ (hs.sub _ z) n
  · have e3 : p.2 = .tup ds := by simpa using e2
    have rd := r1.rd
    rw [e3] at rd
    obtain ⟨a, vs, rfl, q1, q2⟩ := rd.isTup
    exact .inr (.inl ⟨a, rfl, ⟨vs, q1⟩, k (.tup a) H1 s1 ⟨vs, q1, q2⟩ fun a' ea => nomatch ea⟩)
  · have e3 : p.2 = .str z := by simpa using e2
    have rd := r1.rd
    rw [e3] at rd
    obtain ⟨rfl, ok⟩ := rd.isStr
    exact .inr (.inr ⟨_, rfl, k (.str z) H1 s1 ⟨ok, rfl⟩ fun a' ea => nomatch ea⟩)
theorem z62_iff {i : Int} (h : z62 i = true) : -(2 ^ 62) ≤ i ∧ i < 2 ^ 62 := by
  simp only [z62, Bool.and_eq_true, decide_eq_true_eq] at h
  omega
theorem ci_rng1 {a : Expr} {p pos : Pos} {ies : Es} (hg : Gl X "range") (hm : X.mg "range" = none) (ha : PA X [a] (SRs xs X.K W (evEs cl ies))) (hs : starEach [a] X.env = [(false, eval a X.env)]) : PI X tg (.Call (.Name "range" p) [a] [] pos) (SI xs X.K W (evEs cl ies) .rng1) := by
  refine piImp (pi_range1 hg hm ha hs) fun σ H R => ?_
  rintro ⟨ρ, F, Own, hs, h⟩
  refine ⟨ρ, F, Own, hs, h.imp fun ps _ h => ?_⟩
  intro vs H1 s1 r1
  obtain ⟨ds, e1, k⟩ := h
  obtain ⟨j, e2, hz, rfl⟩ := rng1_inv e1
  have rd := rds r1
  rw [e2] at rd
  obtain ⟨v, rfl, rv⟩ := oneArg rd
  cases rv.isInt
  have hz := z62_iff hz
  exact ⟨j, rfl, hz.1, hz.2, k (.rng 0 j.toNat) H1 s1 rfl fun a' ea => nomatch ea⟩
theorem ci_rng2 {a b : Expr} {p pos : Pos} {ies : Es} (hg : Gl X "range") (hm : X.mg "range" = none) (ha : PA X [a, b] (SRs xs X.K W (evEs cl ies))) (hs : starEach [a, b] X.env = [(false, eval a X.env), (false, eval b X.env)]) (hs2 : starEach [b] X.env = [(false, eval b X.env)]) :
    PI X tg (.Call (.Name "range" p) [a, b] [] pos) (SI xs X.K W (evEs cl ies) .rng2) := by
  refine piImp (pi_range2 hg hm ha hs hs2) fun σ H R => ?_
  rintro ⟨ρ, F, Own, hs, h⟩
  refine ⟨ρ, F, Own, hs, h.imp fun ps _ h => ?_⟩
  intro vs H1 s1 r1
  obtain ⟨ds, e1, k⟩ := h
  obtain ⟨i, j, e2, hz, hz2, rfl⟩ := rng2_inv e1
  have rd := rds r1
  rw [e2] at rd
  obtain ⟨v, u, rfl, rv, ru⟩ := twoArg rd
  cases rv.isInt
  cases ru.isInt
  have h1 := z62_iff hz
  have h2 := z62_iff hz2
  exact ⟨i, j, rfl, ⟨h1.1, h1.2, h2.1, h2.2⟩, k (.rng i (j - i).toNat) H1 s1 rfl fun a' ea => nomatch ea⟩

/-! ### comprehensions -/
abbrev W0 : WX := fun _ _ _ _ => False
/-- a comprehension's element, tests, target, in its block -/
structure BlkE (xs : Exs) (cl : Cl) (X : Cx) (scope : Scope) (tgE : Expr) (tg : Tg) (ifs : List Expr) (ic : E) (elt : Expr) (ie : E) : Prop where
  tg : ∀ (s : Shared) (H : Hp) (C : Addr) (cl' : List (Str × Addr)) (fp : List Addr), PG (X.blk s H scope (compEnvC scope cl' C X.env) fp) tgE (tgOf X.K tg)
  ifs : ∀ (s : Shared) (H : Hp) (C : Addr) (cl' : List (Str × Addr)) (fp : List Addr), PTs (X.blk s H scope (compEnvC scope cl' C X.env) fp) ifs (ST xs X.K W0 fun ρ => truthR (evE cl ic ρ))
  elt : ∀ (s : Shared) (H : Hp) (C : Addr) (cl' : List (Str × Addr)) (fp : List Addr), PE (X.blk s H scope (compEnvC scope cl' C X.env) fp) elt (SR xs X.K W0 (evE cl ie))
def lcStep (cl : Cl) (own : List Nat) (tg : Tg) (ic ie : E) (ρ : List Slot) (d : D) : R (Option D) :=
  match setTg tg d (wipeS ρ own) with
  | some ρ' => (truthR (evE cl ic ρ')).bind fun b => if b then ((evE cl ie ρ').bind fun p => match p.1 with | .b => .stuck | _ => .ok (some p.2)) else .ok none
  | none => .stuck
theorem evE_cmpr (own : List Nat) (tg : Tg) (k : Itk) (it : Es) (ic ie : E) (ρ : List Slot) : evE cl (.cmpr own tg k it ic ie) ρ = (evEs cl it ρ).bind fun ps => match itemsOf k (ps.map (·.2)) with
    | some ds => (lcGo (lcStep cl own tg ic ie ρ) ds).quiet.bind fun r => if ds.length ≤ szl then .ok (.f, .lst r) else .stuck
    | none => .stuck := by
  simp only [evE]
  rfl
/-- what is left of a comprehension, ahead of the place i -/
structure LcAt (xs : Exs) (K : PySem.W.Frag) (cl : Cl) (own : List Nat) (tg : Tg) (ic ie : E) (ρ : List Slot) (σ : L2.St) (Own : List Addr) (F : Fb) (src : Src) (ds r : List D) (D₀ : Addr) (H1 : Hp) (i : Nat) (H : Hp) : Prop where
  src : SrcR K H (F.add D₀) src ds
  env : StE K H (F.add D₀) ρ σ Own
  same : Same H1 H
  acc : ∃ (acc : List V) (dn rest : List D), H D₀ = some (.lst acc) ∧ RepVs K H (F.add D₀) dn acc ∧ dn.length ≤ i ∧ lcGo (lcStep cl own tg ic ie ρ) (ds.drop i) = .ok rest ∧ r = dn ++ rest
theorem lcRead {own : List (Str × Nat)} {tg : Tg} {k : Itk} {it : Es} {ic ie : E} {σ : L2.St} {H : Hp} {Q : VK} (hin : tgIn tg (own.map (·.2)) = true) (h : SR xs X.K W (evE cl (.cmpr (own.map (·.2)) tg k it ic ie)) σ H Q) :
    tLc (SI xs X.K W (evEs cl it) k) (tgOf X.K tg) (ST xs X.K W0 fun ρ => truthR (evE cl ic ρ)) (SR xs X.K W0 (evE cl ie)) (own.map (·.2)) σ H Q := by
  obtain ⟨ρ, F, Own, hs, h⟩ := h
  rw [evE_cmpr] at h
  refine ⟨ρ, F, Own, hs, h.bind.imp fun ps _ h => ?_⟩
  cases e1 : itemsOf k (ps.map (·.2)) with
  | none => rw [e1] at h; exact h.elim
  | some ds =>
  rw [e1] at h
  refine ⟨ds, rfl, fun src H1 s1 hsrc hown => ?_⟩
  -- the whole of it comes to a list
  have hgo : ∃ r, lcGo (lcStep cl (own.map (·.2)) tg ic ie ρ) ds = .ok r := by
    dsimp only at h
    cases e : lcGo (lcStep cl (own.map (·.2)) tg ic ie ρ) ds with
    | ok r => exact ⟨r, rfl⟩
    | exn y b => rw [e] at h; exact h.elim
    | stuck => rw [e] at h; exact h.elim
  obtain ⟨r, hr⟩ := hgo
  dsimp only at h
  rw [hr] at h
  dsimp only [R.quiet, R.bind] at h
  have hz : ds.length ≤ szl := by
    by_cases hz : ds.length ≤ szl
    · exact hz
    · rw [if_neg hz] at h; exact h.elim
  rw [if_pos hz] at h
  intro D₀ hD
  have sD : Same H1 (upd H1 D₀ (.lst [])) := same_upd hD
  refine ⟨fun i m Hi => m = ds.length - i ∧ i ≤ ds.length ∧ LcAt xs X.K cl (own.map (·.2)) tg ic ie ρ σ Own F src ds r D₀ H1 i Hi, ⟨ds.length, by simp, Nat.zero_le _, ?_⟩, ?_⟩
  · refine ⟨?_, ?_, sD, [], [], r, upd_same, .nil, Nat.le_refl _, hr, rfl⟩
    · refine hsrc.move (fun a o ha _ => sD a o ha) (fun a o ha nf => ⟨sD a o ha, fun z => z.elim nf fun e => by subst e; rw [hD] at ha; cases ha⟩) fun a ea => ?_
      subst ea
      obtain ⟨vs, e, _⟩ := hsrc
      rw [e]; exact sD _ _ e
    · exact ⟨hs.env.same s1 |>.add sD hD, fun a ha => .inl (hs.sub a ha), fun a ha => by
        rcases ha with ha | rfl
        · exact fun z => hs.ex a ha (s1.free (sD.free z))
        · rw [upd_same]; exact fun z => by cases z⟩
  · rintro i m Hi ⟨rfl, hi, L⟩
    obtain ⟨acc, dn, rest, hacc, racc, hle, hrest, hsum⟩ := L.acc
    by_cases hlt : i < ds.length
    · refine .inr ⟨L.src.go hlt, fun H' => LcAt xs X.K cl (own.map (·.2)) tg ic ie ρ σ Own F src ds r D₀ H1 (i + 1) H', fun H' L' => ⟨ds.length - (i + 1), by omega, rfl, hlt, L'⟩, fun x H2 y => ?_⟩
      have hd : ds[i]? = some ds[i] := List.getElem?_eq_getElem hlt
      obtain ⟨rfl, rx⟩ := L.src.yld hd y
      have hdrop : ds.drop i = ds[i] :: ds.drop (i + 1) := List.drop_eq_getElem_cons hlt
      rw [hdrop] at hrest
      simp only [lcGo] at hrest
      obtain ⟨o, ho, hrest⟩ := bind_ok hrest
      obtain ⟨rest', hr', hrest⟩ := bind_ok hrest
      unfold lcStep at ho
      cases et : setTg tg ds[i] (wipeS ρ (own.map (·.2))) with
      | none => rw [et] at ho; cases ho
      | some ρ' =>
      rw [et] at ho
      obtain ⟨b, hb, ho⟩ := bind_ok (show (truthR (evE cl ic ρ')).bind _ = R.ok o from ho)
      obtain ⟨os1, we, ws⟩ := L.env.env.wipe (own.map (·.2))
      refine tg_ok rx et we fun vs os2 h2 s2 => ?_
      refine ⟨wipe_tg σ _ hin x vs, ρ', F.add D₀, os2, ⟨h2, fun a ha => L.env.sub a (ws.subset (s2.subset ha)), L.env.ex⟩, ?_⟩
      dsimp only
      rw [hb]
      intro H3 s3
      -- what is kept of the state
      have kept : ∀ H4, Same H2 H4 → SrcR X.K H4 (F.add D₀) src ds ∧ StE X.K H4 (F.add D₀) ρ σ Own ∧ Same H1 H4 := fun H4 s4 => ⟨L.src.move (fun a o ha _ => s4 a o ha) (fun a o ha nf => ⟨s4 a o ha, nf⟩) (fun a ea => by
          subst ea
          obtain ⟨vs, e, _⟩ := L.src
          rw [e]; exact s4 _ _ e), L.env.same s4, L.same.trans s4⟩
      cases b with
      | false =>
        rw [if_neg Bool.false_ne_true]
        rw [if_neg Bool.false_ne_true] at ho
        cases ho
        obtain ⟨k1, k2, k3⟩ := kept H3 s3
        refine ⟨k1, k2, k3, acc, dn, rest', s3 _ _ hacc, racc.same s3, by omega, hr', ?_⟩
        cases hrest
        exact hsum
      | true =>
        rw [if_pos rfl]
        rw [if_pos rfl] at ho
        obtain ⟨p, hp, ho⟩ := bind_ok ho
        refine ⟨ρ', F.add D₀, os2, (show StE X.K H3 (F.add D₀) ρ' _ os2 from ⟨h2.same s3, fun a ha => L.env.sub a (ws.subset (s2.subset ha)), fun a ha z => L.env.ex a ha (s3.free z)⟩), ?_⟩
        rw [hp]
        intro y H4 s4 r4
        have s34 := s3.trans s4
        have hacc4 : H4 D₀ = some (.lst acc) := s34 _ _ hacc
        refine ⟨acc, hacc4, ?_, ?_⟩
        · rw [← racc.length, sizeLine_eq]
          unfold szl at hz
          omega
        · have hk : p.1 ≠ .b := fun z => by rw [z] at ho; cases ho
          have eo : o = some p.2 := by
            obtain ⟨kk, d⟩ := p
            cases kk with
            | b => exact absurd rfl hk
            | v => cases ho; rfl
            | f => cases ho; rfl
          subst eo
          have ry : RepV X.K H4 (F.add D₀) p.2 y := Res.solid hk (fun a ha z => L.env.ex a ha (s3.free z)) r4
          -- the list grows
          have mv : ∀ a o, H4 a = some o → ¬ (F.add D₀) a → (upd H4 D₀ (.lst (acc ++ [y]))) a = some o ∧ ¬ (F.add D₀) a := fun a o ha nf => ⟨by rw [upd_ne fun z => nf (.inr z)]; exact ha, nf⟩
          have mt : ∀ a o, H4 a = some o → ((∃ ys, o = .tup ys) ∨ ∃ ob u, o = .frz ob u) → (upd H4 D₀ (.lst (acc ++ [y]))) a = some o := fun a o ha ht => by
            rw [upd_ne]; exact ha
            rintro rfl
            rw [hacc4] at ha
            cases ha
            rcases ht with ⟨_, z⟩ | ⟨_, _, z⟩ <;> cases z
          have nD : ∀ a ∈ Own, a ≠ D₀ := fun a ha z => by
            subst z
            exact hs.ex a (hs.sub a ha) (s1.free hD)
          obtain ⟨k1, k2, k3⟩ := kept H4 s34
          refine ⟨?_, ⟨k2.env.move mt mv fun a ha o hao => ?_, k2.sub, fun a ha => ?_⟩, fun b u hb => ?_, acc ++ [y], dn ++ [p.2], rest', upd_same, ?_, ?_, hr', ?_⟩
          · refine k1.move mt mv fun a ea => ?_
            subst ea
            rw [upd_ne]
            rintro rfl
            obtain ⟨vs', e, _⟩ := hsrc
            rw [hD] at e; cases e
          · rw [upd_ne (nD a ha)]; exact hao
          · rcases ha with ha | rfl
            · by_cases z : a = D₀
              · subst z; rw [upd_same]; exact fun w => by cases w
              · rw [upd_ne z]; exact k2.ex a (.inl ha)
            · rw [upd_same]; exact fun w => by cases w
          · have := k3 b u hb
            rw [upd_ne (ne_of_none hb hD)]; exact this
          · exact ((racc.same s34).append (.cons ry .nil)).move mt mv
          · simp; omega
          · cases hrest
            rw [hsum]
            simp
    · have e : i = ds.length := by omega
      subst e
      refine .inl ⟨L.src.stop (Nat.le_refl _), ?_⟩
      rw [List.drop_length] at hrest
      cases hrest
      rw [List.append_nil] at hsum
      subst hsum
      exact h _ Hi (s1.trans L.same) ⟨D₀, acc, r, rfl, rfl, s1.free hD, hacc, racc⟩
theorem ce_lc {elt tgE iter : Expr} {ifs : List Expr} {scope : Scope} {own : List (Str × Nat)} {pos : Pos} {tg : Tg} {k : Itk} {it : Es} {ic ie : E} (hc : X.calm = true) (hN : X.N.Nodup) (hi : PI X tgE iter (SI xs X.K W (evEs cl it) k)) (ok : BlkOk X.N X.env.scope scope own)
    (B : BlkE xs cl X scope tgE tg ifs ic elt ie) (hin : tgIn tg (own.map (·.2)) = true) (hs : ∀ x, foldedSetIterable iter X.env x = pure x) : CE xs W cl X (.ListComp elt [⟨tgE, iter, ifs, 0⟩] scope pos) (.cmpr (own.map (·.2)) tg k it ic ie) :=
  peImp (pe_lc hc hN hi ok B.tg B.ifs B.elt hs) fun _ _ _ h => lcRead hin h
end
end Ev
end

section
set_option Elab.async false
set_option linter.all false
set_option maxRecDepth 100000
set_option maxHeartbeats 1000000
/-! Ev1g: the state of a def's body, and its steps. -/
namespace Ev
open PySem PySem.Spec L2

/-! ### where a name's list lies -/
section
variable {K : PySem.W.Frag} {H H' : Hp} {F F' : Fb}
/-- the name i has its list at a -/
def At (ρ : List Slot) (σ : L2.St) (i : Nat) (a : Addr) : Prop := (∃ d, ρ[i]? = some (.own d) ∨ ρ[i]? = some (.lck d)) ∧ σ[i]? = some (some (.ref a))
theorem EnvR.at_mem {ρ : List Slot} {σ : L2.St} {os : List Addr} {i : Nat} {a : Addr} (h : EnvR K H F ρ σ os) (q : At ρ σ i a) : a ∈ os := by
  obtain ⟨⟨d, e⟩, e2⟩ := q
  obtain ⟨a', vs, ds, _, e3, m, _⟩ := h.getOwn e
  rw [e3] at e2
  cases e2
  exact m
theorem At.succ {s : Slot} {x : Option V} {ρ : List Slot} {σ : L2.St} {i : Nat} {a : Addr} : At (s :: ρ) (x :: σ) (i + 1) a ↔ At ρ σ i a := by
  simp [At]
/-- one list has one name alone -/
theorem EnvR.at_inj : ∀ {ρ : List Slot} {σ : L2.St} {os : List Addr} {i j : Nat} {a : Addr}, EnvR K H F ρ σ os → os.Nodup → At ρ σ i a → At ρ σ j a → i = j
  | _, _, _, _, _, _, .nil, _, ⟨⟨d, e⟩, _⟩, _ => by simp at e
  | _, _, _, 0, 0, _, _, _, _, _ => rfl
  | _, _, _, 0, _ + 1, _, .emp _, _, ⟨⟨d, e⟩, _⟩, _ => by simp at e
  | _, _, _, 0, _ + 1, _, .val _ _, _, ⟨⟨d, e⟩, _⟩, _ => by simp at e
  | _, _, _, 0, _ + 1, _, .own _ _ r, n, ⟨_, e⟩, q => by
    simp at e; subst e
    exact absurd (r.at_mem (At.succ.mp q)) (List.nodup_cons.mp n).1
  | _, _, _, 0, _ + 1, _, .lck _ _ r, n, ⟨_, e⟩, q => by
    simp at e; subst e
    exact absurd (r.at_mem (At.succ.mp q)) (List.nodup_cons.mp n).1
  | _, _, _, _ + 1, 0, _, .emp _, _, _, ⟨⟨d, e⟩, _⟩ => by simp at e
  | _, _, _, _ + 1, 0, _, .val _ _, _, _, ⟨⟨d, e⟩, _⟩ => by simp at e
  | _, _, _, _ + 1, 0, _, .own _ _ r, n, q, ⟨_, e⟩ => by
    simp at e; subst e
    exact absurd (r.at_mem (At.succ.mp q)) (List.nodup_cons.mp n).1
  | _, _, _, _ + 1, 0, _, .lck _ _ r, n, q, ⟨_, e⟩ => by
    simp at e; subst e
    exact absurd (r.at_mem (At.succ.mp q)) (List.nodup_cons.mp n).1
  | _, _, _, _ + 1, _ + 1, _, .emp r, n, p, q => congrArg (· + 1) (EnvR.at_inj r n (At.succ.mp p) (At.succ.mp q))
  | _, _, _, _ + 1, _ + 1, _, .val _ r, n, p, q => congrArg (· + 1) (EnvR.at_inj r n (At.succ.mp p) (At.succ.mp q))
  | _, _, _, _ + 1, _ + 1, _, .own _ _ r, n, p, q => congrArg (· + 1) (EnvR.at_inj r (List.nodup_cons.mp n).2 (At.succ.mp p) (At.succ.mp q))
  | _, _, _, _ + 1, _ + 1, _, .lck _ _ r, n, p, q => congrArg (· + 1) (EnvR.at_inj r (List.nodup_cons.mp n).2 (At.succ.mp p) (At.succ.mp q))
/-- whose list it is -/
theorem EnvR.mem_at : ∀ {ρ : List Slot} {σ : L2.St} {os : List Addr} {a : Addr}, EnvR K H F ρ σ os → a ∈ os → ∃ i, At ρ σ i a
  | _, _, _, _, .nil, m => by cases m
  | _, _, _, _, .emp r, m => let ⟨i, q⟩ := EnvR.mem_at r m; ⟨i + 1, At.succ.mpr q⟩
  | _, _, _, _, .val _ r, m => let ⟨i, q⟩ := EnvR.mem_at r m; ⟨i + 1, At.succ.mpr q⟩
  | _, _, _, _, .own _ _ r, m => by
    rcases List.mem_cons.mp m with rfl | m
    · exact ⟨0, ⟨_, .inl rfl⟩, rfl⟩
    · obtain ⟨i, q⟩ := EnvR.mem_at r m
      exact ⟨i + 1, At.succ.mpr q⟩
  | _, _, _, _, .lck _ _ r, m => by
    rcases List.mem_cons.mp m with rfl | m
    · exact ⟨0, ⟨_, .inr rfl⟩, rfl⟩
    · obtain ⟨i, q⟩ := EnvR.mem_at r m
      exact ⟨i + 1, At.succ.mpr q⟩
/-- a name takes a new list -/
theorem EnvR.setO {a : Addr} {vs : List V} {ds : List D} (hH : H a = some (.lst vs)) (hr : RepVs K H F ds vs) : ∀ {ρ : List Slot} {σ : L2.St} {os : List Addr} (i : Nat), EnvR K H F ρ σ os →
    ∃ os', EnvR K H F (ρ.set i (.own (.lst ds))) (σ.set i (some (.ref a))) os' ∧ (∀ b ∈ os', b = a ∨ b ∈ os) ∧ (os.Nodup → a ∉ os → os'.Nodup)
  | _, _, _, _, .nil => ⟨[], .nil, fun _ h => .inr h, fun h _ => h⟩
  | _, _, os, 0, .emp r => ⟨a :: os, .own hH hr r, fun _ h => List.mem_cons.mp h, fun h n => List.nodup_cons.mpr ⟨n, h⟩⟩
  | _, _, os, 0, .val _ r => ⟨a :: os, .own hH hr r, fun _ h => List.mem_cons.mp h, fun h n => List.nodup_cons.mpr ⟨n, h⟩⟩
  | _, _, _, 0, .own _ _ r => ⟨_, .own hH hr r, fun _ h => (List.mem_cons.mp h).imp id (List.mem_cons_of_mem _), fun h n => List.nodup_cons.mpr ⟨fun z => n (List.mem_cons_of_mem _ z), (List.nodup_cons.mp h).2⟩⟩
  | _, _, _, 0, .lck _ _ r => ⟨_, .own hH hr r, fun _ h => (List.mem_cons.mp h).imp id (List.mem_cons_of_mem _), fun h n => List.nodup_cons.mpr ⟨fun z => n (List.mem_cons_of_mem _ z), (List.nodup_cons.mp h).2⟩⟩
  | _, _, _, i + 1, .emp r => let ⟨o, p, q, n⟩ := EnvR.setO hH hr i r; ⟨o, .emp p, q, n⟩
  | _, _, _, i + 1, .val h r => let ⟨o, p, q, n⟩ := EnvR.setO hH hr i r; ⟨o, .val h p, q, n⟩
  | _, _, _, i + 1, .own h w r => let ⟨o, p, q, n⟩ := EnvR.setO hH hr i r; ⟨_, .own h w p, fun b hb => (List.mem_cons.mp hb).elim (fun e => .inr (e ▸ List.mem_cons_self ..)) fun hb => (q b hb).imp id (List.mem_cons_of_mem _),
      fun hn ha => List.nodup_cons.mpr ⟨fun z => (q _ z).elim (fun e => ha (e ▸ List.mem_cons_self ..)) (List.nodup_cons.mp hn).1, n (List.nodup_cons.mp hn).2 fun z => ha (List.mem_cons_of_mem _ z)⟩⟩
  | _, _, _, i + 1, .lck h w r => let ⟨o, p, q, n⟩ := EnvR.setO hH hr i r; ⟨_, .lck h w p, fun b hb => (List.mem_cons.mp hb).elim (fun e => .inr (e ▸ List.mem_cons_self ..)) fun hb => (q b hb).imp id (List.mem_cons_of_mem _),
      fun hn ha => List.nodup_cons.mpr ⟨fun z => (q _ z).elim (fun e => ha (e ▸ List.mem_cons_self ..)) (List.nodup_cons.mp hn).1, n (List.nodup_cons.mp hn).2 fun z => ha (List.mem_cons_of_mem _ z)⟩⟩
/-- a name's list is another: the heap H' has it -/
theorem EnvR.upd {a : Addr} {vs : List V} {ds : List D} (hF : F a) (ho : ∀ b o, H b = some o → b ≠ a → H' b = some o) (hH : H' a = some (.lst vs)) (hr : RepVs K H' F ds vs) (hl : ∃ w, H a = some (.lst w)) :
    ∀ {ρ : List Slot} {σ : L2.St} {os : List Addr} {i : Nat} {d : D}, EnvR K H F ρ σ os → os.Nodup → ρ[i]? = some (.own d) → σ[i]? = some (some (.ref a)) → EnvR K H' F (ρ.set i (.own (.lst ds))) σ os := by
  have mt : ∀ b o, H b = some o → ((∃ ys, o = .tup ys) ∨ ∃ ob u, o = .frz ob u) → H' b = some o := fun b o hb ht => ho b o hb fun e => by
    subst e
    obtain ⟨w, hw⟩ := hl
    rw [hw] at hb
    cases hb
    rcases ht with ⟨_, z⟩ | ⟨_, _, z⟩ <;> cases z
  have ml : ∀ b o, H b = some o → ¬ F b → H' b = some o ∧ ¬ F b := fun b o hb nb => ⟨ho b o hb fun e => nb (e ▸ hF), nb⟩
  have rest : ∀ {ρ : List Slot} {σ : L2.St} {os : List Addr}, a ∉ os → EnvR K H F ρ σ os → EnvR K H' F ρ σ os := fun na r => r.move mt ml fun b hb o h => ho b o h fun e => na (e ▸ hb)
  intro ρ
  induction ρ with
  | nil => intro σ os i d _ _ e; simp at e
  | cons s ρ ih =>
    intro σ os i d h hn e e2
    cases i with
    | zero =>
      simp at e
      subst e
      cases h with
      | own h w r =>
        simp at e2
        subst e2
        exact .own hH hr (rest (List.nodup_cons.mp hn).1 r)
    | succ i =>
      cases h with
      | emp r => exact .emp (ih r hn (by simpa using e) (by simpa using e2))
      | val h r => exact .val (h.move mt ml) (ih r hn (by simpa using e) (by simpa using e2))
      | own h w r =>
        have m := r.at_mem (i := i) (a := a) ⟨⟨d, .inl (by simpa using e)⟩, by simpa using e2⟩
        exact .own (ho _ _ h fun z => (List.nodup_cons.mp hn).1 (z ▸ m)) (w.move mt ml) (ih r (List.nodup_cons.mp hn).2 (by simpa using e) (by simpa using e2))
      | lck h w r =>
        have m := r.at_mem (i := i) (a := a) ⟨⟨d, .inl (by simpa using e)⟩, by simpa using e2⟩
        exact .lck (ho _ _ h fun z => (List.nodup_cons.mp hn).1 (z ▸ m)) (w.move mt ml) (ih r (List.nodup_cons.mp hn).2 (by simpa using e) (by simpa using e2))
theorem EnvR.lock : ∀ {ρ : List Slot} {σ : L2.St} {os : List Addr} {i : Nat} {d : D}, EnvR K H F ρ σ os → ρ[i]? = some (.own d) → EnvR K H F (ρ.set i (.lck d)) σ os
  | _, _, _, _, _, .nil, e => by simp at e
  | _, _, _, 0, _, .emp _, e => by simp at e
  | _, _, _, 0, _, .val _ _, e => by simp at e
  | _, _, _, 0, _, .own h w r, e => by simp at e; subst e; exact .lck h w r
  | _, _, _, 0, _, .lck h w r, e => by simp at e
  | _, _, _, i + 1, _, .emp r, e => .emp (EnvR.lock r (by simpa using e))
  | _, _, _, i + 1, _, .val h r, e => .val h (EnvR.lock r (by simpa using e))
  | _, _, _, i + 1, _, .own h w r, e => .own h w (EnvR.lock r (by simpa using e))
  | _, _, _, i + 1, _, .lck h w r, e => .lck h w (EnvR.lock r (by simpa using e))
theorem EnvR.unlock : ∀ {ρ : List Slot} {σ : L2.St} {os : List Addr} {i : Nat} {d : D}, EnvR K H F ρ σ os → ρ[i]? = some (.lck d) → EnvR K H F (ρ.set i (.own d)) σ os
  | _, _, _, _, _, .nil, e => by simp at e
  | _, _, _, 0, _, .emp _, e => by simp at e
  | _, _, _, 0, _, .val _ _, e => by simp at e
  | _, _, _, 0, _, .lck h w r, e => by simp at e; subst e; exact .own h w r
  | _, _, _, 0, _, .own h w r, e => by simp at e
  | _, _, _, i + 1, _, .emp r, e => .emp (EnvR.unlock r (by simpa using e))
  | _, _, _, i + 1, _, .val h r, e => .val h (EnvR.unlock r (by simpa using e))
  | _, _, _, i + 1, _, .own h w r, e => .own h w (EnvR.unlock r (by simpa using e))
  | _, _, _, i + 1, _, .lck h w r, e => .lck h w (EnvR.unlock r (by simpa using e))
/-- a name's list becomes a value -/
theorem EnvR.give {a : Addr} (hF : F' = fun b => F b ∧ b ≠ a) : ∀ {ρ : List Slot} {σ : L2.St} {os : List Addr} {i : Nat} {d : D}, EnvR K H F ρ σ os → os.Nodup → ρ[i]? = some (.own d) → σ[i]? = some (some (.ref a)) →
    EnvR K H F' (ρ.set i (.val d)) σ (os.erase a) := by
  subst hF
  have less : ∀ b, (F b ∧ b ≠ a) → F b := fun _ z => z.1
  have all : ∀ {ρ : List Slot} {σ : L2.St} {os : List Addr}, EnvR K H F ρ σ os → EnvR K H (fun b => F b ∧ b ≠ a) ρ σ os := fun r => r.move (fun _ _ h _ => h) (fun b o h n => ⟨h, fun z => n z.1⟩) fun _ _ _ h => h
  intro ρ
  induction ρ with
  | nil => intro σ os i d _ _ e; simp at e
  | cons s ρ ih =>
    intro σ os i d h hn e e2
    cases i with
    | zero =>
      simp at e
      subst e
      cases h with
      | own h w r =>
        simp at e2
        subst e2
        rw [List.erase_cons_head]
        exact .val (.lst h (fun z => z.2 rfl) (w.less less)) (all r)
    | succ i =>
      cases h with
      | emp r => exact .emp (ih r hn (by simpa using e) (by simpa using e2))
      | val h r => exact .val (h.less less) (ih r hn (by simpa using e) (by simpa using e2))
      | own h w r =>
        rename_i b vs₀ ds₀ σ₀ os₀
        have m := r.at_mem (i := i) (a := a) ⟨⟨d, .inl (by simpa using e)⟩, by simpa using e2⟩
        have ne : b ≠ a := fun z => (List.nodup_cons.mp hn).1 (z ▸ m)
        rw [List.erase_cons_tail (by simpa using ne)]
        exact .own h (w.less less) (ih r (List.nodup_cons.mp hn).2 (by simpa using e) (by simpa using e2))
      | lck h w r =>
        rename_i b vs₀ ds₀ σ₀ os₀
        have m := r.at_mem (i := i) (a := a) ⟨⟨d, .inl (by simpa using e)⟩, by simpa using e2⟩
        have ne : b ≠ a := fun z => (List.nodup_cons.mp hn).1 (z ▸ m)
        rw [List.erase_cons_tail (by simpa using ne)]
        exact .lck h (w.less less) (ih r (List.nodup_cons.mp hn).2 (by simpa using e) (by simpa using e2))
end

/-! ### the state -/
/-- what stays through a stretch of code -/
structure Gh where
  pin : Addr → HO → Prop
  nf : Fb
  bad : Fb
  old : Fb
  os : List Addr
  lks : Nat → Addr → Prop
/-- a list that is locked -/
def Lck (ρ : List Slot) (σ : L2.St) (a : Addr) : Prop := ∃ (j : Nat) (d : D), ρ[j]? = some (Slot.lck d) ∧ σ[j]? = some (some (V.ref a))
def Frz (ρ : List Slot) (σ : L2.St) (Own : List Addr) (a : Addr) : Prop := a ∉ Own ∨ Lck ρ σ a
structure StS (K : PySem.W.Frag) (G : Gh) (H : Hp) (F : Fb) (ρ : List Slot) (σ : L2.St) (Own : List Addr) : Prop where
  env : EnvR K H F ρ σ Own
  nd : Own.Nodup
  sub : ∀ a ∈ Own, F a
  ex : ∀ a, F a → H a ≠ none
  pin : ∀ a o, G.pin a o → H a = some o ∧ Frz ρ σ Own a
  nf : ∀ a, G.nf a → H a ≠ none ∧ ¬ F a
  bad : ∀ a, G.bad a → F a ∧ G.old a
  old : ∀ a, G.old a → H a ≠ none
  fresh : ∀ a ∈ Own, a ∈ G.os ∨ ¬ G.old a
  io : ∀ i a, G.os[i]? = some a → At ρ σ i a
  lk : ∀ (j : Nat) (d : D) (a : Addr), ρ[j]? = some (Slot.lck d) → σ[j]? = some (some (V.ref a)) → G.lks j a
section
variable {K : PySem.W.Frag} {G : Gh} {H H' : Hp} {F : Fb} {ρ : List Slot} {σ : L2.St} {Own : List Addr}
theorem StS.e (h : StS K G H F ρ σ Own) : StE K H F ρ σ Own := ⟨h.env, h.sub, h.ex⟩
theorem StS.same (s : Same H H') (h : StS K G H F ρ σ Own) : StS K G H' F ρ σ Own where
  env := h.env.same s
  nd := h.nd
  sub := h.sub
  ex a f z := h.ex a f (s.free z)
  pin a o p := ⟨s _ _ (h.pin a o p).1, (h.pin a o p).2⟩
  nf a p := ⟨fun z => (h.nf a p).1 (s.free z), (h.nf a p).2⟩
  bad := h.bad
  old a p z := h.old a p (s.free z)
  fresh := h.fresh
  io := h.io
  lk := h.lk
theorem lck_set {i : Nat} {s : Slot} {x : Option V} {a : Addr} (h : Lck ρ σ a) : Lck (ρ.set i s) (σ.set i x) a ∨ ∃ d : D, ρ[i]? = some (Slot.lck d) ∧ σ[i]? = some (some (V.ref a)) := by
  obtain ⟨j, d, e1, e2⟩ := h
  by_cases z : i = j
  · subst z; exact .inr ⟨d, e1, e2⟩
  · exact .inl ⟨j, d, by rw [List.getElem?_set_ne z]; exact e1, by rw [List.getElem?_set_ne z]; exact e2⟩
theorem at_set_ne {i j : Nat} {s : Slot} {x : Option V} {a : Addr} (z : j ≠ i) (h : At ρ σ i a) : At (ρ.set j s) (σ.set j x) i a := by
  obtain ⟨⟨d, e1⟩, e2⟩ := h
  exact ⟨⟨d, by rw [List.getElem?_set_ne z]; exact e1⟩, by rw [List.getElem?_set_ne z]; exact e2⟩
theorem at_set_ne' {i j : Nat} {s : Slot} {a : Addr} (z : j ≠ i) (h : At ρ σ i a) : At (ρ.set j s) σ i a := by
  obtain ⟨⟨d, e1⟩, e2⟩ := h
  exact ⟨⟨d, by rw [List.getElem?_set_ne z]; exact e1⟩, e2⟩
/-- the places behind the lists that were handed in -/
theorem io_ne {i n : Nat} (hn : G.os.length ≤ n) {a : Addr} (e : G.os[i]? = some a) : n ≠ i := by
  have := (List.getElem?_eq_some_iff.mp e).1
  omega
theorem lt_of_get {α : Type} {l : List α} {i : Nat} {x : α} (e : l[i]? = some x) : i < l.length := (List.getElem?_eq_some_iff.mp e).1
/-- what is set is nobody's -/
theorem at_set_val {i j : Nat} {d : D} {x : Option V} {a : Addr} (h : At (ρ.set i (.val d)) (σ.set i x) j a) : At ρ σ j a ∧ j ≠ i := by
  obtain ⟨⟨d', e1⟩, e2⟩ := h
  have z : i ≠ j := fun z => by
    subst z
    by_cases hl : i < ρ.length
    · rw [List.getElem?_set_self hl] at e1
      rcases e1 with e | e <;> cases e
    · rw [List.set_eq_of_length_le (by omega), List.getElem?_eq_none (by omega)] at e1
      rcases e1 with e | e <;> cases e
  rw [List.getElem?_set_ne z] at e1 e2
  exact ⟨⟨⟨d', e1⟩, e2⟩, fun w => z w.symm⟩
theorem lk_set {i : Nat} {s : Slot} {x : Option V} (ns : ∀ d, s ≠ .lck d) (h : ∀ (j : Nat) (d : D) (a : Addr), ρ[j]? = some (Slot.lck d) → σ[j]? = some (some (V.ref a)) → G.lks j a) :
    ∀ (j : Nat) (d : D) (a : Addr), (ρ.set i s)[j]? = some (Slot.lck d) → (σ.set i x)[j]? = some (some (V.ref a)) → G.lks j a := by
  intro j d a e1 e2
  by_cases z : i = j
  · subst z
    by_cases hl : i < ρ.length
    · rw [List.getElem?_set_self hl] at e1
      exact absurd (Option.some.inj e1) (ns d)
    · rw [List.set_eq_of_length_le (by omega), List.getElem?_eq_none (by omega)] at e1
      cases e1
  · rw [List.getElem?_set_ne z] at e1 e2
    exact h j d a e1 e2
theorem lk_set' {i : Nat} {s : Slot} (ns : ∀ d, s ≠ .lck d) (h : ∀ (j : Nat) (d : D) (a : Addr), ρ[j]? = some (Slot.lck d) → σ[j]? = some (some (V.ref a)) → G.lks j a) :
    ∀ (j : Nat) (d : D) (a : Addr), (ρ.set i s)[j]? = some (Slot.lck d) → σ[j]? = some (some (V.ref a)) → G.lks j a := by
  intro j d a e1 e2
  by_cases z : i = j
  · subst z
    by_cases hl : i < ρ.length
    · rw [List.getElem?_set_self hl] at e1
      exact absurd (Option.some.inj e1) (ns d)
    · rw [List.set_eq_of_length_le (by omega), List.getElem?_eq_none (by omega)] at e1
      cases e1
  · rw [List.getElem?_set_ne z] at e1
    exact h j d a e1 e2
theorem StS.setV {i : Nat} {d : D} {v : V} (h : StS K G H F ρ σ Own) (hv : RepV K H F d v) (hn : G.os.length ≤ i) : ∃ Own', StS K G H F (ρ.set i (.val d)) (σ.set i (some v)) Own' := by
  obtain ⟨os', e, s⟩ := h.env.setV hv i
  refine ⟨os', e, s.nodup h.nd, fun a m => h.sub a (s.subset m), h.ex, fun a o p => ⟨(h.pin a o p).1, ?_⟩, h.nf, h.bad, h.old, fun a m => h.fresh a (s.subset m), fun j a q => at_set_ne (io_ne hn q) (h.io j a q), lk_set (fun _ z => nomatch z) h.lk⟩
  rcases (h.pin a o p).2 with na | l
  · exact .inl fun z => na (s.subset z)
  · rcases lck_set (i := i) (s := .val d) (x := some v) l with l | ⟨d', e1, e2⟩
    · exact .inr l
    · refine .inl fun z => ?_
      obtain ⟨j, q⟩ := e.mem_at z
      obtain ⟨q, ne⟩ := at_set_val q
      exact ne (h.env.at_inj h.nd q ⟨⟨d', .inr e1⟩, e2⟩)
/-- a new list is a name's -/
theorem StS.setO {i : Nat} {a : Addr} {vs : List V} {ds : List D} (h : StS K G H F ρ σ Own) (hF : F a) (hH : H a = some (.lst vs)) (hr : RepVs K H F ds vs) (hn : G.os.length ≤ i) (na : a ∉ Own) (no : ¬ G.old a) (np : ∀ o, ¬ G.pin a o) :
    ∃ Own', StS K G H F (ρ.set i (.own (.lst ds))) (σ.set i (some (.ref a))) Own' := by
  obtain ⟨os', e, s, n⟩ := h.env.setO hH hr i
  refine ⟨os', e, n h.nd na, fun b m => (s b m).elim (fun z => z ▸ hF) (h.sub b), h.ex, fun b o p => ⟨(h.pin b o p).1, ?_⟩, h.nf, h.bad, h.old, fun b m => (s b m).elim (fun z => .inr (z ▸ no)) (h.fresh b), fun j b q => at_set_ne (io_ne hn q) (h.io j b q), lk_set (fun _ z => nomatch z) h.lk⟩
  have ne : b ≠ a := fun z => np o (z ▸ p)
  rcases (h.pin b o p).2 with nb | l
  · exact .inl fun z => (s b z).elim ne nb
  · rcases lck_set (i := i) (s := .own (.lst ds)) (x := some (.ref a)) l with l | ⟨d', e1, e2⟩
    · exact .inr l
    · refine .inl fun z => ?_
      obtain ⟨j, ⟨d2, q1⟩, q2⟩ := e.mem_at z
      by_cases w : i = j
      · subst w
        rw [List.getElem?_set_self (lt_of_get e2)] at q2
        cases q2
        exact ne rfl
      · rw [List.getElem?_set_ne w] at q1 q2
        exact w (h.env.at_inj h.nd ⟨⟨d', .inr e1⟩, e2⟩ ⟨⟨d2, q1⟩, q2⟩)
/-- a name's list is written -/
theorem StS.write {i : Nat} {a : Addr} {vs : List V} {ds : List D} {d : D} (h : StS K G H F ρ σ Own) (e1 : ρ[i]? = some (.own d)) (e2 : σ[i]? = some (some (.ref a))) (ho : ∀ b o, H b = some o → b ≠ a → H' b = some o) (hH : H' a = some (.lst vs)) (hr : RepVs K H' F ds vs) :
    StS K G H' F (ρ.set i (.own (.lst ds))) σ Own := by
  have hat : At ρ σ i a := ⟨⟨d, .inl e1⟩, e2⟩
  have ma := h.env.at_mem hat
  obtain ⟨w, hw⟩ := h.env.isL a ma
  have ex : ∀ b, H b ≠ none → H' b ≠ none := fun b hb z => by
    by_cases q : b = a
    · subst q; rw [hH] at z; cases z
    · cases e : H b with
      | none => exact hb e
      | some o => rw [ho b o e q] at z; cases z
  have nl : ∀ b o, G.pin b o → b ≠ a := fun b o p z => by
    subst z
    rcases (h.pin b o p).2 with q | ⟨j, d', q1, q2⟩
    · exact q ma
    · have := h.env.at_inj h.nd hat ⟨⟨d', .inr q1⟩, q2⟩
      subst this
      rw [e1] at q1; cases q1
  refine ⟨h.env.upd (h.sub a ma) ho hH hr ⟨w, hw⟩ h.nd e1 e2, h.nd, h.sub, fun b f => ex b (h.ex b f), fun b o p => ⟨ho b o (h.pin b o p).1 (nl b o p), ?_⟩, fun b p => ⟨ex b (h.nf b p).1, (h.nf b p).2⟩, h.bad, fun b p => ex b (h.old b p), h.fresh, fun j b q => ?_, lk_set' (fun _ z => nomatch z) h.lk⟩
  · rcases (h.pin b o p).2 with q | ⟨j, d', q1, q2⟩
    · exact .inl q
    · refine .inr ⟨j, d', ?_, q2⟩
      rw [List.getElem?_set_ne]
      · exact q1
      · rintro rfl
        rw [e1] at q1; cases q1
  · by_cases w : i = j
    · subst w
      exact ⟨⟨_, .inl (List.getElem?_set_self (lt_of_get e1))⟩, (h.io _ _ q).2⟩
    · exact at_set_ne' w (h.io j b q)
/-- a name gives its list away -/
theorem StS.give {i : Nat} {a : Addr} {d : D} (h : StS K G H F ρ σ Own) (e1 : ρ[i]? = some (.own d)) (e2 : σ[i]? = some (some (.ref a))) (hn : G.os.length ≤ i) : StS K G H (fun b => F b ∧ b ≠ a) (ρ.set i (.val d)) σ (Own.erase a) := by
  have hat : At ρ σ i a := ⟨⟨d, .inl e1⟩, e2⟩
  have ma := h.env.at_mem hat
  have nos : a ∉ G.os := fun z => by
    obtain ⟨j, hj⟩ := List.getElem?_of_mem z
    exact io_ne hn hj (h.env.at_inj h.nd hat (h.io j a hj))
  have mem : ∀ b, b ∈ Own.erase a → b ∈ Own ∧ b ≠ a := fun b m => ⟨List.mem_of_mem_erase m, fun z => by
    subst z
    exact (List.Nodup.not_mem_erase h.nd) m⟩
  refine ⟨h.env.give rfl h.nd e1 e2, h.nd.erase a, fun b m => ⟨h.sub b (mem b m).1, (mem b m).2⟩, fun b f => h.ex b f.1, fun b o p => ⟨(h.pin b o p).1, ?_⟩, fun b p => ⟨(h.nf b p).1, fun z => (h.nf b p).2 z.1⟩, fun b p => ⟨⟨(h.bad b p).1, fun z => ?_⟩, (h.bad b p).2⟩, h.old, fun b m => h.fresh b (mem b m).1, fun j b q => at_set_ne' (io_ne hn q) (h.io j b q), lk_set' (fun _ z => nomatch z) h.lk⟩
  · rcases (h.pin b o p).2 with q | ⟨j, d', q1, q2⟩
    · exact .inl fun z => q (mem b z).1
    · refine .inr ⟨j, d', ?_, q2⟩
      rw [List.getElem?_set_ne]
      · exact q1
      · rintro rfl
        rw [e1] at q1; cases q1
  · subst z
    rcases h.fresh b ma with q | q
    · exact nos q
    · exact q (h.bad b p).2
/-- a new list, as yet of nobody -/
theorem StS.more {a : Addr} (h : StS K G H F ρ σ Own) (s : Same H H') (n : H a = none) (e : H' a ≠ none) : StS K G H' (F.add a) ρ σ Own where
  env := h.env.add s n
  nd := h.nd
  sub b m := .inl (h.sub b m)
  ex b f := f.elim (fun f z => h.ex b f (s.free z)) fun q => q ▸ e
  pin b o p := ⟨s _ _ (h.pin b o p).1, (h.pin b o p).2⟩
  nf b p := ⟨fun z => (h.nf b p).1 (s.free z), fun f => f.elim (h.nf b p).2 fun q => (h.nf b p).1 (q ▸ n)⟩
  bad b p := ⟨.inl (h.bad b p).1, (h.bad b p).2⟩
  old b p z := h.old b p (s.free z)
  fresh := h.fresh
  io := h.io
  lk := h.lk
/-- targets -/
def tgLo (n : Nat) : Tg → Bool
  | .one i => decide (n ≤ i)
  | .tup is => is.all fun i => decide (n ≤ i)
theorem StS.setTgs {Q : L2.St → Hp → Prop} : ∀ {is : List Nat} {ds : List D} {vs : List V} {ρ : List Slot} {σ : L2.St} {Own : List Addr}, StS K G H F ρ σ Own → RepVs K H F ds vs → ds.length = is.length → (∀ i ∈ is, G.os.length ≤ i) →
    (∀ σ' Own', StS K G H F (List.foldl (fun (r : List Slot) (p : Nat × D) => r.set p.1 (.val p.2)) ρ (is.zip ds)) σ' Own' → Q σ' H) → tgAll is vs σ H Q
  | [], [], _, _, _, _, h, .nil, _, _, q => ⟨rfl, q _ _ h⟩
  | [], _ :: _, _, _, _, _, _, _, e, _, _ => by simp at e
  | _ :: _, [], _, _, _, _, _, _, e, _, _ => by simp at e
  | i :: is, d :: ds, _, _, _, _, h, .cons hd ht, e, hn, q => by
    obtain ⟨o1, h1⟩ := h.setV hd (hn i (List.mem_cons_self ..))
    exact ⟨_, _, rfl, StS.setTgs h1 ht (by simpa using e) (fun j m => hn j (List.mem_cons_of_mem _ m)) fun σ' o' h2 => q σ' o' h2⟩
theorem StS.setTg {Q : L2.St → Hp → Prop} {tg : Tg} {d : D} {v : V} {ρ' : List Slot} (h : StS K G H F ρ σ Own) (hv : RepV K H F d v) (e : setTg tg d ρ = some ρ') (hn : tgLo G.os.length tg = true) (q : ∀ σ' Own', StS K G H F ρ' σ' Own' → Q σ' H) : tgOf K tg v σ H Q := by
  cases tg with
  | one i =>
    cases e
    obtain ⟨o1, h1⟩ := h.setV hv (by simpa [tgLo] using hn)
    exact q _ o1 h1
  | tup is =>
    cases d with
    | tup ds =>
      simp only [Ev.setTg] at e
      split at e
      · rename_i hl
        cases e
        cases hv with
        | tup hq hr =>
          refine ⟨_, _, rfl, hq, by rw [← hr.length, hl], ?_⟩
          exact h.setTgs hr hl (by simpa [tgLo] using hn) fun σ' o' h2 => q σ' o' h2
      · cases e
    | _ => cases e
/-! ### loops -/
def Gh.loop (G : Gh) (H : Hp) (F : Fb) (ρ : List Slot) (σ : L2.St) (Own : List Addr) (lks : Nat → Addr → Prop) : Gh := { G with pin := fun a o => H a = some o ∧ Frz ρ σ Own a, nf := fun a => H a ≠ none ∧ ¬ F a, lks := lks }
theorem StS.into (h : StS K G H F ρ σ Own) : StS K (G.loop H F ρ σ Own G.lks) H F ρ σ Own := ⟨h.env, h.nd, h.sub, h.ex, fun _ _ p => p, fun _ p => p, h.bad, h.old, h.fresh, h.io, h.lk⟩
theorem StS.outof {H1 : Hp} {F1 : Fb} {ρ1 : List Slot} {σ1 : L2.St} {Own1 : List Addr} {lks : Nat → Addr → Prop} (h0 : StS K G H F ρ σ Own) (h : StS K (G.loop H F ρ σ Own lks) H1 F1 ρ1 σ1 Own1) (l : ∀ (j : Nat) (d : D) (a : Addr), ρ1[j]? = some (Slot.lck d) → σ1[j]? = some (some (V.ref a)) → G.lks j a) : StS K G H1 F1 ρ1 σ1 Own1 :=
  ⟨h.env, h.nd, h.sub, h.ex, fun a o p => h.pin a o (h0.pin a o p), fun a p => h.nf a (h0.nf a p), h.bad, h.old, h.fresh, h.io, l⟩
/-- what is nobody's stays through a loop's turns -/
theorem StS.moves {H1 : Hp} {F1 : Fb} {ρ1 : List Slot} {σ1 : L2.St} {Own1 : List Addr} {lks : Nat → Addr → Prop} (h0 : StS K G H F ρ σ Own) (h : StS K (G.loop H F ρ σ Own lks) H1 F1 ρ1 σ1 Own1) :
    (∀ a o, H a = some o → ((∃ ys, o = .tup ys) ∨ ∃ ob u, o = .frz ob u) → H1 a = some o) ∧ ∀ a o, H a = some o → ¬ F a → H1 a = some o ∧ ¬ F1 a := by
  refine ⟨fun a o e ht => (h.pin a o ⟨e, .inl fun m => ?_⟩).1, fun a o e nf => ⟨(h.pin a o ⟨e, .inl fun m => nf (h0.sub a m)⟩).1, (h.nf a ⟨by rw [e]; exact nofun, nf⟩).2⟩⟩
  obtain ⟨w, hw⟩ := h0.env.isL a m
  rw [hw] at e
  cases e
  rcases ht with ⟨_, z⟩ | ⟨_, _, z⟩ <;> cases z
/-- a list is locked -/
theorem lck_lock {j : Nat} {d : D} {a : Addr} (h : Lck ρ σ a) : Lck (ρ.set j (.lck d)) σ a := by
  obtain ⟨i, d', e1, e2⟩ := h
  by_cases z : j = i
  · subst z
    exact ⟨j, d, List.getElem?_set_self (lt_of_get e1), e2⟩
  · exact ⟨i, d', by rw [List.getElem?_set_ne z]; exact e1, e2⟩
theorem StS.lock {j : Nat} {d : D} {a : Addr} (h : StS K G H F ρ σ Own) (e1 : ρ[j]? = some (.own d)) (e2 : σ[j]? = some (some (.ref a))) :
    StS K (G.loop H F (ρ.set j (.lck d)) σ Own fun i b => (i = j ∧ b = a) ∨ (i ≠ j ∧ G.lks i b)) H F (ρ.set j (.lck d)) σ Own := by
  refine ⟨h.env.lock e1, h.nd, h.sub, h.ex, fun _ _ p => p, fun _ p => p, h.bad, h.old, h.fresh, fun i b q => ?_, fun i d' b q1 q2 => ?_⟩
  · obtain ⟨⟨d', w1⟩, w2⟩ := h.io i b q
    by_cases z : j = i
    · subst z
      exact ⟨⟨d, .inr (List.getElem?_set_self (lt_of_get e1))⟩, w2⟩
    · exact ⟨⟨d', by rw [List.getElem?_set_ne z]; exact w1⟩, w2⟩
  · by_cases z : j = i
    · subst z
      rw [e2] at q2
      cases q2
      exact .inl ⟨rfl, rfl⟩
    · rw [List.getElem?_set_ne z] at q1
      exact .inr ⟨fun w => z w.symm, h.lk i d' b q1 q2⟩
/-- through the lock's loop -/
theorem StS.moves' {H1 : Hp} {F1 : Fb} {ρ1 ρ2 : List Slot} {σ1 : L2.St} {Own1 : List Addr} {lks : Nat → Addr → Prop} (h0 : StS K G H F ρ σ Own) (h : StS K (G.loop H F ρ2 σ Own lks) H1 F1 ρ1 σ1 Own1) :
    (∀ a o, H a = some o → ((∃ ys, o = .tup ys) ∨ ∃ ob u, o = .frz ob u) → H1 a = some o) ∧ ∀ a o, H a = some o → ¬ F a → H1 a = some o ∧ ¬ F1 a := by
  refine ⟨fun a o e ht => (h.pin a o ⟨e, .inl fun m => ?_⟩).1, fun a o e nf => ⟨(h.pin a o ⟨e, .inl fun m => nf (h0.sub a m)⟩).1, (h.nf a ⟨by rw [e]; exact nofun, nf⟩).2⟩⟩
  obtain ⟨w, hw⟩ := h0.env.isL a m
  rw [hw] at e
  cases e
  rcases ht with ⟨_, z⟩ | ⟨_, _, z⟩ <;> cases z
theorem frz_lock {j : Nat} {d : D} {a : Addr} (h : Frz ρ σ Own a) : Frz (ρ.set j (.lck d)) σ Own a := h.imp id lck_lock
/-- .. and is free again -/
theorem StS.unlock {j : Nat} {d : D} {a : Addr} {H1 : Hp} {F1 : Fb} {ρ1 : List Slot} {σ1 : L2.St} {Own1 : List Addr} (h : StS K G H F ρ σ Own) (e1 : ρ[j]? = some (.own d)) (e2 : σ[j]? = some (some (.ref a)))
    (h1 : StS K (G.loop H F (ρ.set j (.lck d)) σ Own fun i b => (i = j ∧ b = a) ∨ (i ≠ j ∧ G.lks i b)) H1 F1 ρ1 σ1 Own1) : StS K G H1 F1 (Ev.unlock (some (j, d)) ρ1) σ1 Own1 := by
  have hat : At ρ σ j a := ⟨⟨d, .inl e1⟩, e2⟩
  have nl : ∀ b o, G.pin b o → b ≠ a := fun b o p z => by
    subst z
    rcases (h.pin b o p).2 with q | ⟨i, d', q1, q2⟩
    · exact q (h.env.at_mem hat)
    · have := h.env.at_inj h.nd hat ⟨⟨d', .inr q1⟩, q2⟩
      subst this
      rw [e1] at q1; cases q1
  unfold Ev.unlock
  dsimp only
  split
  · rename_i d1 q1
    refine ⟨h1.env.unlock q1, h1.nd, h1.sub, h1.ex, fun b o p => ?_, fun b p => h1.nf b (h.nf b p), h1.bad, h1.old, h1.fresh, fun i b q => ?_, fun i d' b w1 w2 => ?_⟩
    · obtain ⟨p1, p2⟩ := h1.pin b o ⟨(h.pin b o p).1, frz_lock (h.pin b o p).2⟩
      refine ⟨p1, p2.imp id fun ⟨i, d', w1, w2⟩ => ⟨i, d', ?_, w2⟩⟩
      rw [List.getElem?_set_ne]
      · exact w1
      · rintro rfl
        rcases h1.lk j d' b w1 w2 with ⟨_, z⟩ | ⟨z, _⟩
        · exact nl b o p z
        · exact z rfl
    · obtain ⟨⟨d', w1⟩, w2⟩ := h1.io i b q
      by_cases z : j = i
      · subst z
        exact ⟨⟨d1, .inl (List.getElem?_set_self (lt_of_get q1))⟩, w2⟩
      · exact ⟨⟨d', by rw [List.getElem?_set_ne z]; exact w1⟩, w2⟩
    · by_cases z : j = i
      · subst z
        rw [List.getElem?_set_self (lt_of_get q1)] at w1
        cases w1
      · rw [List.getElem?_set_ne z] at w1
        rcases h1.lk i d' b w1 w2 with ⟨w, _⟩ | ⟨_, w⟩
        · exact absurd w.symm z
        · exact w
  · rename_i ng
    refine ⟨h1.env, h1.nd, h1.sub, h1.ex, fun b o p => h1.pin b o ⟨(h.pin b o p).1, frz_lock (h.pin b o p).2⟩, fun b p => h1.nf b (h.nf b p), h1.bad, h1.old, h1.fresh, h1.io, fun i d' b w1 w2 => ?_⟩
    rcases h1.lk i d' b w1 w2 with ⟨w, _⟩ | ⟨_, w⟩
    · subst w; exact absurd w1 (ng d')
    · exact w
/-! ### lists that are handed over -/
theorem StS.outs {Hz : Hp} {is : List Nat} {as : List Addr} {outs : List D} (h : StS K G H F ρ σ Own) (ni : is.Nodup) (na : as.Nodup) (t : Paired (fun i a => (∃ d, ρ[i]? = some (.own d)) ∧ σ[i]? = some (some (V.ref a))) is as) (hF : ∀ a ∈ as, F a) (kp : Keep as H Hz) (ro : OutR K Hz F outs as) :
    StS K G Hz F (setOwns ρ is outs) σ Own := by
  have isL : ∀ {outs : List D} {as : List Addr}, OutR K Hz F outs as → ∀ b ∈ as, ∃ w, Hz b = some (.lst w) := by
    intro outs as r
    induction r with
    | nil => intro b hb; cases hb
    | cons e _ _ ih =>
      intro b hb
      rcases List.mem_cons.mp hb with rfl | hb
      · exact ⟨_, e⟩
      · exact ih b hb
  induction is generalizing as outs H ρ with
  | nil =>
    cases t
    cases ro
    exact h.same (keep_same kp)
  | cons i is ih =>
    cases t with
    | cons p t =>
    rename_i a as
    obtain ⟨⟨d, e1⟩, e2⟩ := p
    cases ro with
    | cons hw rw_ ro =>
    rename_i ws es outs
    obtain ⟨ni1, ni2⟩ := List.nodup_cons.mp ni
    obtain ⟨na1, na2⟩ := List.nodup_cons.mp na
    let H1 : Hp := fun b => if b ∈ as then H b else Hz b
    have h1n : ∀ {b}, b ∉ as → H1 b = Hz b := fun {b} n => if_neg n
    have h1m : ∀ {b}, b ∈ as → H1 b = H b := fun {b} m => if_pos m
    have mv : RepVs K H1 F es ws := rw_.move (fun b o hb ht => by
        rw [h1n]; exact hb
        intro m
        obtain ⟨w, z⟩ := isL ro b m
        rw [z] at hb; cases hb
        rcases ht with ⟨_, z⟩ | ⟨_, _, z⟩ <;> cases z) fun b o hb nb => ⟨by
        rw [h1n]; exact hb
        exact fun m => nb (hF b (List.mem_cons_of_mem _ m)), nb⟩
    have s1 : StS K G H1 F (ρ.set i (.own (.lst es))) σ Own := h.write e1 e2 (fun b o hb nb => by
        by_cases m : b ∈ as
        · rw [h1m m]; exact hb
        · rw [h1n m]; exact kp b o hb fun z => (List.mem_cons.mp z).elim nb m) (by rw [h1n na1]; exact hw) mv
    have t1 : ∀ {is : List Nat} {as : List Addr}, Paired (fun k b => (∃ d, ρ[k]? = some (.own d)) ∧ σ[k]? = some (some (V.ref b))) is as → i ∉ is → Paired (fun k b => (∃ d, (ρ.set i (.own (.lst es)))[k]? = some (.own d)) ∧ σ[k]? = some (some (V.ref b))) is as := by
      intro is as p
      induction p with
      | nil => intro _; exact .nil
      | cons q _ ih =>
        intro ni
        have n1 : i ≠ _ := fun z => ni (z ▸ List.mem_cons_self ..)
        exact .cons ⟨by rw [List.getElem?_set_ne n1]; exact q.1, q.2⟩ (ih fun z => ni (List.mem_cons_of_mem _ z))
    exact ih s1 ni2 na2 (t1 t ni1) (fun b m => hF b (List.mem_cons_of_mem _ m)) (fun b o hb nb => by rw [h1n nb] at hb; exact hb) ro
end
end Ev
end

section
set_option Elab.async false
set_option linter.all false
set_option maxRecDepth 100000
set_option maxHeartbeats 1000000
/-! Ev1h: readings of statements: names that take values, lists that grow, calls that are handed lists. -/
namespace Ev
open PySem PySem.Spec L2 PyProof.Rows

/-! ### a list takes a tuple's items -/
theorem list_extend_tup (l : Addr) (items : Array Value) (n : Nat) (b : Addr) (items2 : Array Value) (n2 : Nat) (dct : Option Addr) (slots : Array (Option Value)) (hs0 : ¬(!items.isEmpty && Builtin.List.listTooLong (items.size + items2.size)) = true) (hs1 : items.size ≤ sizeLine) (hs2 : items.size + items2.size ≤ sizeLine + 1) :
    Meets (Builtin.«list.extend» ⟨[.ref l, .ref b], []⟩) (fun _ R s => s.heap.get? l = some { cls := .type "list", dict := none, data := .seq items n, slots := #[] } ∧ s.heap.get? b = some { cls := .type "tuple", dict := dct, data := .seq items2 n2, slots := slots } ∧ R (.ok (.ret Value.none)) { s with heap := s.heap.update l (Obj.mapSeq fun x => x ++ items2), toks := s.toks }) :=
  .of_wp fun prog w A R s h => by
    obtain ⟨hp, g, d, tk, os⟩ := s; obtain ⟨hl, hb, h⟩ := h; have f1 := PySem.AutoSeq1.idx_int; have f2 := PySem.AutoSeq1.sub_tuple_tuple; have f3 := PySem.AutoSeq1.sub_list_list; have f4 := PySem.AutoSeq1.sub_tuple_list; have f5 := PySem.AutoSeq1.sub_list_tuple;
    have hz' : (items ++ items2).size ≤ sizeLine + 1 := by rw [Array.size_append]; exact hs2
    wp_walk using (wpAny_updateSeq hl rfl (hz := hs1) (_hz' := hz')), PySem.AutoSeq1.wpAny_loadPart' hl, PySem.AutoSeq1.wpAny_loadPart' hb; exact ⟨_, rfl, h⟩
def rExtendT (K : PySem.W.Frag) : V → List V → Hp → VK → Prop := fun x vs H Q => ∃ l b xs zs, x = .ref l ∧ vs = [.ref b] ∧ H l = some (.lst xs) ∧ SqT K H b zs ∧ xs.length + zs.length ≤ sizeLine ∧ Q .non (upd H l (.lst (xs ++ zs)))
theorem mt_extendT {X : Cx} : MtR X "list.extend" (rExtendT X.K) := by
  intro pins s σ H x vs v us Q I rx rv h
  obtain ⟨l, b, xs, zs, rfl, rfl, hH, hB, hz, q⟩ := h
  cases rx
  obtain ⟨u, rfl, ru⟩ := rv.one
  cases ru
  obtain ⟨z, its, n, r, hl, e⟩ := I.lstM hH
  obtain ⟨its2, r2, ⟨o2, e2, c2, n2, d2⟩, z2⟩ := I.tuple hB
  have hl2 := r2.length
  obtain ⟨cls, dct, dat, slots⟩ := o2
  cases c2
  cases d2
  have hsz : its.toArray.size + its2.toArray.size ≤ sizeLine := by rw [List.size_toArray, List.size_toArray]; omega
  have hlong : ¬ (!its.toArray.isEmpty && Builtin.List.listTooLong (its.toArray.size + its2.toArray.size)) = true := by
    rw [notLongL hsz, Bool.and_false]
    exact Bool.false_ne_true
  refine call_meets F.slot_list_extend ⟨_, e, rfl⟩ F.entry_list_extend (F.args_list_extend_2 _ _)
    (list_extend_tup l its.toArray n b its2.toArray n2 dct slots hlong (by rw [List.size_toArray]; omega) (by omega)) ⟨e, e2, ?_⟩
  refine ⟨.non, _, I.lset (its' := its ++ its2) hH e (by simp) (r.append r2) ?_, rfl, q⟩
  rw [List.length_append]
  omega

/-! ### readings -/
/-- behind a return -/
def RtR (K : PySem.W.Frag) (G : Gh) (H : Hp) (F : Fb) (k : Kd) (d : D) (v : V) : Prop :=
  match k with
  | .v => RepV K H F d v
  | .f => ∃ a vs ds, d = .lst ds ∧ v = .ref a ∧ ¬ G.old a ∧ H a = some (.lst vs) ∧ RepVs K H (F.add a) ds vs
  | .b => False
def AfS (xs : Exs) (K : PySem.W.Frag) (W : WX) (G : Gh) (Dn : Ends) : Out → Prop
  | .nx ρ => ∀ σ H F Own, StS K G H F ρ σ Own → Dn.nx σ H
  | .bk ρ => ∀ σ H F Own, StS K G H F ρ σ Own → Dn.bk σ H
  | .ct ρ => ∀ σ H F Own, StS K G H F ρ σ Own → Dn.ct σ H
  | .rt k d ρ => ∀ v σ H F Own, StS K G H F ρ σ Own → RtR K G H F k d v → Dn.rt v H
  | .exn x a => ∀ cls dd σ H, (∀ b o, G.pin b o → H b = some o) → ExR xs K H x a cls dd → W cls dd σ H
  | .stuck => False
/-- a statement by a computation over the names; n: so many lists were handed in -/
def SS (xs : Exs) (K : PySem.W.Frag) (W : WX) (n : Nat) (g : List Slot → Out) : TS := fun Dn σ H =>
  ∃ G ρ F Own, G.os.length = n ∧ StS K G H F ρ σ Own ∧ AfS xs K W G Dn (g ρ)
/-- what a value is that is to be kept, with the names' state behind it -/
def SkR (K : PySem.W.Frag) (G : Gh) (ρ : List Slot) (σ : L2.St) (H : Hp) (k : Kd) (d : D) (v : V) : Prop := ∃ F Own, StS K G H F ρ σ Own ∧
  match k with
  | .v => RepV K H F d v
  | .f => ∃ a vs ds, d = .lst ds ∧ v = .ref a ∧ StS K G H (F.add a) ρ σ Own ∧ ¬ F a ∧ H a = some (.lst vs) ∧ RepVs K H (F.add a) ds vs ∧ ¬ G.old a ∧ (∀ o, ¬ G.pin a o) ∧ a ∉ Own
  | .b => False
/-- behind an expression that may change the names' lists -/
def AfM (xs : Exs) (K : PySem.W.Frag) (W : WX) (G : Gh) (σ : L2.St) {α : Type} (r : R α) (k : α → Prop) : Prop :=
  match r with
  | .ok a => k a
  | .exn x a => ∀ cls dd H, (∀ b o, G.pin b o → H b = some o) → ExR xs K H x a cls dd → W cls dd σ H
  | .stuck => False
def SM (xs : Exs) (K : PySem.W.Frag) (W : WX) (n : Nat) (cl : Cl) (m : M) : TE := fun σ H Q =>
  ∃ G ρ F Own, G.os.length = n ∧ StS K G H F ρ σ Own ∧ AfM xs K W G σ (evM cl m ρ) fun q => ∃ k d ρ', sinkM m q.1 q.2 = some (k, d, ρ') ∧ ∀ v H', SkR K G ρ' σ H' k d v → Q v H'

section
variable {xs : Exs} {K : PySem.W.Frag} {W : WX} {G : Gh} {σ : L2.St} {H H' : Hp} {F : Fb} {ρ : List Slot} {Own : List Addr} {α β : Type} {Dn : Ends}
theorem pin_same (h : StS K G H F ρ σ Own) (s : Same H H') : ∀ b o, G.pin b o → H' b = some o := fun b o p => s _ _ (h.pin b o p).1
theorem AfS.of {r : R α} {f : α → Out} (st : StS K G H F ρ σ Own) (h : AfS xs K W G Dn (.of r f)) : After xs K W σ H r fun a => AfS xs K W G Dn (f a) := by
  cases r with
  | ok a => exact h
  | exn x a => exact fun cls dd H' s e => h cls dd σ H' (pin_same st s) e
  | stuck => exact h
theorem AfM.bind {r : R α} {f : α → R β} {k : β → Prop} (st : StS K G H F ρ σ Own) (h : AfM xs K W G σ (r.bind f) k) : After xs K W σ H r fun a => AfM xs K W G σ (f a) k := by
  cases r with
  | ok a => exact h
  | exn x a => exact fun cls dd H' s e => h cls dd H' (pin_same st s) e
  | stuck => exact h
theorem AfM.bindM {r : R α} {f : α → R β} {k : β → Prop} (h : AfM xs K W G σ (r.bind f) k) : AfM xs K W G σ r fun a => AfM xs K W G σ (f a) k := by
  cases r with
  | ok a => exact h
  | exn x a => exact h
  | stuck => exact h
theorem AfM.imp {r : R α} {k k' : α → Prop} (h : AfM xs K W G σ r k) (f : ∀ a, r = .ok a → k a → k' a) : AfM xs K W G σ r k' := by
  cases r with
  | ok a => exact f a rfl h
  | exn x a => exact h
  | stuck => exact h
theorem AfS.ofM {r : R α} {f : α → Out} (h : AfS xs K W G Dn (.of r f)) : AfM xs K W G σ r fun a => AfS xs K W G Dn (f a) := by
  cases r with
  | ok a => exact h
  | exn x a => exact fun cls dd H' p e => h cls dd σ H' p e
  | stuck => exact h
theorem AfM.after {r : R α} {k : α → Prop} (st : StS K G H F ρ σ Own) (h : AfM xs K W G σ r k) : After xs K W σ H r k := by
  cases r with
  | ok a => exact h
  | exn x a => exact fun cls dd H' s e => h cls dd H' (pin_same st s) e
  | stuck => exact h
/-- an expression's value, kept -/
theorem sk_of {k : Kd} {d : D} {v : V} (st : StS K G H F ρ σ Own) (s : Same H H') (r : Res K H H' F Own (k, d) v) (hk : k ≠ .b) : SkR K G ρ σ H' k d v := by
  refine ⟨F, Own, st.same s, ?_⟩
  cases k with
  | v => exact r
  | b => exact absurd rfl hk
  | f =>
    obtain ⟨a, vs, ds, rfl, rfl, n, e, q⟩ := r
    exact ⟨a, vs, ds, rfl, rfl, st.more s n (by rw [e]; exact nofun), fun z => st.ex a z n, e, q, fun z => st.old a z n, (fun o z => by
      have := (st.pin a o z).1
      rw [n] at this; cases this), fun z => st.ex a (st.sub a z) n⟩
theorem SkR.val {k : Kd} {d : D} {v : V} (h : SkR K G ρ σ H k d v) : ∃ F Own, StS K G H F ρ σ Own ∧ RepV K H F d v := by
  obtain ⟨F, Own, st, h⟩ := h
  cases k with
  | v => exact ⟨F, Own, st, h⟩
  | b => exact h.elim
  | f =>
    obtain ⟨a, vs, ds, rfl, rfl, st2, na, e, q, _⟩ := h
    exact ⟨F, Own, st, .lst e na (q.less fun _ z => .inl z)⟩
theorem sinkE_ok {a : E} {p : Kd × D} {ρ ρ' : List Slot} {k : Kd} {d : D} (e : sinkE a p ρ = some (k, d, ρ')) : (p = (k, d) ∧ ρ' = ρ ∧ k ≠ .b) ∨ ∃ j, a = .var j ∧ p.1 = .b ∧ k = .v ∧ ρ[j]? = some (.own d) ∧ ρ' = ρ.set j (.val d) := by
  obtain ⟨kk, dd⟩ := p
  cases kk with
  | v => cases e; exact .inl ⟨rfl, rfl, nofun⟩
  | f => cases e; exact .inl ⟨rfl, rfl, nofun⟩
  | b =>
    cases a with
    | var j =>
      simp only [sinkE] at e
      cases hq : ρ[j]? with
      | none => rw [hq] at e; cases e
      | some sl =>
        rw [hq] at e
        cases sl with
        | own d' => cases e; exact .inr ⟨j, rfl, rfl, rfl, hq, rfl⟩
        | _ => cases e
    | _ => cases e
theorem bindTg_st {tg : Tg} {k : Kd} {d : D} {v : V} {ρ' : List Slot} {Q : L2.St → Hp → Prop} (h : SkR K G ρ σ H k d v) (e : bindTg tg k d ρ = some ρ') (hn : tgLo G.os.length tg = true) (q : ∀ σ' F' Own', StS K G H F' ρ' σ' Own' → Q σ' H) : tgOf K tg v σ H Q := by
  have viaV : setTg tg d ρ = some ρ' → tgOf K tg v σ H Q := fun e => by
    obtain ⟨F, Own, st, r⟩ := h.val
    exact st.setTg r e hn fun σ' o' h2 => q σ' F o' h2
  unfold bindTg at e
  split at e
  · rename_i i
    cases e
    obtain ⟨F, Own, st, a, vs, ds, rfl, rfl, st2, na, eH, r, no, np, nO⟩ := h
    obtain ⟨Own', st3⟩ := st2.setO (i := i) (.inr rfl) eH r (by simpa [tgLo] using hn) nO no np
    exact q _ _ _ st3
  · exact viaV e
end

section
variable {X : Cx} {xs : Exs} {W : WX} {cl : Cl} {n : Nat} {pos : Pos} {e : Expr}
abbrev CM (xs : Exs) (W : WX) (n : Nat) (cl : Cl) (X : Cx) (e : Expr) (m : M) : Prop := PE X e (SM xs X.K W n cl m)
abbrev CS (xs : Exs) (W : WX) (n : Nat) (cl : Cl) (X : Cx) (st : Stmt) (s : S) : Prop := PS X st (SS xs X.K W n (evS cl s))
abbrev CSs (xs : Exs) (W : WX) (n : Nat) (cl : Cl) (X : Cx) (st : List Stmt) (s : Ss) : Prop := PSs X st (SS xs X.K W n (evSs cl s))
/-! ### a kept value -/
def isVar : E → Bool
  | .var _ => true
  | _ => false
/-- where the expression is no name -/
theorem cm_e {ia : E} (he : CE xs W cl X e ia) (hv : isVar ia = false) : CM xs W n cl X e (.e ia) := by
  refine peImp he fun σ H Q => ?_
  rintro ⟨G, ρ, F, Own, hn, st, h⟩
  refine ⟨ρ, F, Own, st.e, (AfM.bind st h).imp fun p _ h => ?_⟩
  intro v H' s r
  obtain ⟨k, d, ρ', e1, q⟩ := h
  rcases sinkE_ok e1 with ⟨e2, e3, hk⟩ | ⟨j, rfl, _⟩
  · cases e2; cases e3
    exact q v H' (sk_of st s r hk)
  · cases hv
/-- a name: where it owns its list, the list is given up -/
theorem cm_var {i : Nat} {x : Str} (hN : X.N[i]? = some x) (hv : Vis X.env.scope x) (hd : (x == ("__debug__" : Str)) = false) (hcd : (x == ("__classdict__" : Str)) = false) (hi : n ≤ i) : CM xs W n cl X (.Name x pos) (.e (.var i)) := by
  refine peImp (pe_var hN hv hd hcd) fun σ H Q => ?_
  rintro ⟨G, ρ, F, Own, hn, st, h⟩
  show ∃ v, σ[i]? = some (some v) ∧ Q v H
  simp only [evM, evE, getV] at h
  split at h
  · rename_i d e
    obtain ⟨k, d', ρ', e1, q⟩ := h
    obtain ⟨v, e2, r⟩ := st.env.getVal e
    cases e1
    exact ⟨v, e2, q v H ⟨F, Own, st, r⟩⟩
  · rename_i d e
    obtain ⟨k, d', ρ', e1, q⟩ := h
    simp only [sinkM, sinkE, e] at e1
    cases e1
    obtain ⟨a, vs, ds, rfl, e2, m, hH, r⟩ := st.env.getOwn (.inl e)
    exact ⟨_, e2, q _ H ⟨_, _, st.give e e2 (by omega), .lst hH (fun z => z.2 rfl) (r.less fun _ z => z.1)⟩⟩
  · rename_i d e
    obtain ⟨k, d', ρ', e1, q⟩ := h
    simp only [sinkM, sinkE, e] at e1
    cases e1
  · exact h.elim

/-! ### name = value -/
theorem asg_ok {tg : Tg} {m : M} {σ : L2.St} {H : Hp} {Dn : Ends} {g : List Slot → Out} (hlo : tgLo n tg = true)
    (hg : ∀ ρ, g ρ = .of (evM cl m ρ) fun q => match sinkM m q.1 q.2 with | some (k, d, ρ') => (match bindTg tg k d ρ' with | some ρ'' => .nx ρ'' | none => .stuck) | none => .stuck)
    (h : SS xs X.K W n g Dn σ H) : tAsg (SM xs X.K W n cl m) (tgOf X.K tg) Dn σ H := by
  obtain ⟨G, ρ, F, Own, hn, st, h⟩ := h
  rw [hg] at h
  refine ⟨G, ρ, F, Own, hn, st, (AfS.ofM h).imp fun q _ h => ?_⟩
  split at h
  · rename_i k d ρ' e1
    refine ⟨k, d, ρ', e1, fun v H' sk => ?_⟩
    split at h
    · rename_i ρ'' e2
      exact bindTg_st sk e2 (by rw [hn]; exact hlo) fun σ' F' o' st' => h σ' H' F' o' st'
    · exact h.elim
  · exact h.elim
theorem asgE_eq {tg : Tg} {a : E} (ρ : List Slot) : evS cl (.asg tg a) ρ = .of (evM cl (.e a) ρ) fun q => match sinkM (.e a) q.1 q.2 with | some (k, d, ρ') => (match bindTg tg k d ρ' with | some ρ'' => .nx ρ'' | none => .stuck) | none => .stuck := by
  simp only [evS, evM, sinkM]
  cases evE cl a ρ <;> rfl
theorem cs_asg {tg : Tg} {a : E} {tgE : Expr} (he : CM xs W n cl X e (.e a)) (hg : PG X tgE (tgOf X.K tg)) (hlo : tgLo n tg = true) (hs : swapsWithSole [tgE] e pos.line X.env = pure false) (hw : swappedStores [tgE] e X.env = pure none)
    (h1 : (assignEach [tgE] X.env).map (·.2) = [assign tgE X.env]) : CS xs W n cl X (.Assign [tgE] e pos) (.asg tg a) :=
  psImp (ps_asg he hg hs hw h1) fun _ _ _ h => asg_ok hlo asgE_eq h
theorem cs_set {i : Nat} {x : Str} {a : E} {pos' : Pos} (hN : X.N.Nodup) (hi : X.N[i]? = some x) (hx : Loc X.env.scope x) (he : CM xs W n cl X e (.e a)) (hlo : n ≤ i) (hs : swapsWith e (some (.Name x pos')) pos.line X.env = pure false) (hf : X.fn x = true ∨ X.env.scope.names.lookup x = some .local) :
    CS xs W n cl X (.Assign [.Name x pos'] e pos) (.asg (.one i) a) :=
  psImp (ps_set hN hi hx he hs hf) fun _ _ _ h => asg_ok (tg := .one i) (by simpa [tgLo] using hlo) asgE_eq h
theorem cs_setM {i : Nat} {x : Str} {m : M} {pos' : Pos} (hN : X.N.Nodup) (hi : X.N[i]? = some x) (hx : Loc X.env.scope x) (he : CM xs W n cl X e m) (hlo : n ≤ i) (hs : swapsWith e (some (.Name x pos')) pos.line X.env = pure false) (hf : X.fn x = true ∨ X.env.scope.names.lookup x = some .local) :
    CS xs W n cl X (.Assign [.Name x pos'] e pos) (.asgM i m) :=
  psImp (ps_set hN hi hx he hs hf) fun _ _ _ h => asg_ok (tg := .one i) (by simpa [tgLo] using hlo) (fun ρ => by simp only [evS] <;> rfl) h
end
end Ev
end

section
set_option Elab.async false
set_option linter.all false
set_option maxRecDepth 100000
set_option maxHeartbeats 1000000
/-! Ev1i: small statements, lists that grow, calls that are handed lists, tests, loops. -/
namespace Ev
open PySem PySem.Spec L2 PyProof.Rows
section
variable {X : Cx} {xs : Exs} {W : WX} {cl : Cl} {n : Nat} {pos : Pos} {e : Expr}

/-! ### small statements -/
theorem css_nil : CSs xs W n cl X [] .nil := by
  refine pssImp pss_nil fun Dn σ H => ?_
  rintro ⟨G, ρ, F, Own, hn, st, h⟩
  exact h σ H F Own st
theorem seqI {s : S} {r : Ss} {Dn : Ends} {σ : L2.St} {H : Hp} (h : SS xs X.K W n (evSs cl (.cons s r)) Dn σ H) : tSeq (SS xs X.K W n (evS cl s)) (SS xs X.K W n (evSs cl r)) Dn σ H := by
  obtain ⟨G, ρ, F, Own, hn, st, h⟩ := h
  refine ⟨G, ρ, F, Own, hn, st, ?_⟩
  simp only [evSs] at h
  revert h
  cases evS cl s ρ with
  | nx ρ' => exact fun h σ' H' F' o' st' => ⟨G, ρ', F', o', hn, st', h⟩
  | bk ρ' => exact fun h => h
  | ct ρ' => exact fun h => h
  | rt k d ρ' => exact fun h => h
  | exn x a => exact fun h => h
  | stuck => exact fun h => h
theorem css_cons {st : Stmt} {sts : List Stmt} {s : S} {r : Ss} (h1 : CS xs W n cl X st s) (h2 : CSs xs W n cl X sts r) : CSs xs W n cl X (st :: sts) (.cons s r) := pssImp (pss_cons h1 h2) fun _ _ _ h => seqI h
theorem cs_pass : CS xs W n cl X (.Pass pos) .pass := by
  refine psImp ps_pass fun Dn σ H => ?_
  rintro ⟨G, ρ, F, Own, hn, st, h⟩
  exact h σ H F Own st
theorem cs_doc {x : Str} {j : Nat} {p : Pos} : CS xs W n cl X (.Expr (.Constant (.str x) j p) pos) .pass := by
  refine psImp ps_doc fun Dn σ H => ?_
  rintro ⟨G, ρ, F, Own, hn, st, h⟩
  exact h σ H F Own st
theorem cs_brk : CS xs W n cl X (.Break pos) .brk := by
  refine psImp ps_break fun Dn σ H => ?_
  rintro ⟨G, ρ, F, Own, hn, st, h⟩
  exact h σ H F Own st
theorem cs_cnt : CS xs W n cl X (.Continue pos) .cnt := by
  refine psImp ps_continue fun Dn σ H => ?_
  rintro ⟨G, ρ, F, Own, hn, st, h⟩
  exact h σ H F Own st
theorem cs_retN : CS xs W n cl X (.Return none pos) .retN := by
  refine psImp ps_retN fun Dn σ H => ?_
  rintro ⟨G, ρ, F, Own, hn, st, h⟩
  exact h .non σ H F Own st .non
theorem cs_expr {ia : E} (he : CE xs W cl X e ia) (hs : swapsWith e none pos.line X.env = pure false) : CS xs W n cl X (.Expr e pos) (.expr ia) := by
  refine psImp (ps_expr he hs) fun Dn σ H => ?_
  rintro ⟨G, ρ, F, Own, hn, st, h⟩
  simp only [evS] at h
  refine ⟨ρ, F, Own, st.e, (AfS.of st h).imp fun p _ h => ?_⟩
  intro v H' s r
  exact h σ H' F Own (st.same s)
theorem cs_ret {ia : E} (he : CE xs W cl X e ia) (hv : isVar ia = false) : CS xs W n cl X (.Return (some e) pos) (.ret ia) := by
  refine psImp (ps_ret he) fun Dn σ H => ?_
  rintro ⟨G, ρ, F, Own, hn, st, h⟩
  simp only [evS] at h
  refine ⟨ρ, F, Own, st.e, (AfS.of st h).imp fun p _ h => ?_⟩
  obtain ⟨k, d⟩ := p
  intro v H' s r
  cases k with
  | v => exact h v σ H' F Own (st.same s) r
  | f =>
    obtain ⟨a, vs, ds, rfl, rfl, q, e1, r1⟩ := r
    have s2 := st.more s q (by rw [e1]; exact nofun)
    exact h _ σ H' F Own (st.same s) ⟨a, vs, ds, rfl, rfl, fun z => st.old a z q, e1, r1⟩
  | b =>
    cases ia with
    | var j => cases hv
    | _ => exact h.elim
theorem cs_retV {i : Nat} {x : Str} {p : Pos} (hN : X.N[i]? = some x) (hv : Vis X.env.scope x) (hd : (x == ("__debug__" : Str)) = false) (hcd : (x == ("__classdict__" : Str)) = false) (hi : n ≤ i) : CS xs W n cl X (.Return (some (.Name x p)) pos) (.ret (.var i)) := by
  refine psImp (ps_ret (pe_var hN hv hd hcd)) fun Dn σ H => ?_
  rintro ⟨G, ρ, F, Own, hn, st, h⟩
  show ∃ v, σ[i]? = some (some v) ∧ Dn.rt v H
  have own : ∀ d, (ρ[i]? = some (.own d) ∨ ρ[i]? = some (.lck d)) → AfS xs X.K W G Dn (.rt .f d ρ) → ∃ v, σ[i]? = some (some v) ∧ Dn.rt v H := fun d e h => by
    obtain ⟨a, vs, ds, rfl, e2, m, hH, r⟩ := st.env.getOwn e
    refine ⟨_, e2, h _ σ H F Own st ⟨a, vs, ds, rfl, rfl, fun z => ?_, hH, r.less fun b q => q.elim id fun w => w ▸ st.sub a m⟩⟩
    rcases st.fresh a m with q | q
    · obtain ⟨j, hj⟩ := List.getElem?_of_mem q
      have := st.env.at_inj st.nd ⟨⟨_, e⟩, e2⟩ (st.io j a hj)
      have := lt_of_get hj
      omega
    · exact q z
  simp only [evS, evE, getV] at h
  split at h
  · rename_i d e
    obtain ⟨v, e2, r⟩ := st.env.getVal e
    exact ⟨v, e2, h v σ H F Own st r⟩
  · rename_i d e
    exact own d (.inl e) h
  · rename_i d e
    exact own d (.inr e) h
  · exact h.elim
theorem cs_if {c : Expr} {ic : E} {a b : List Stmt} {ia ib : Ss} (hc : CT xs W cl X c ic) (ha : CSs xs W n cl X a ia) (hb : CSs xs W n cl X b ib) : CS xs W n cl X (.If c a b pos) (.ifS ic ia ib) := by
  refine psImp (ps_if hc ha hb) fun Dn σ H => ?_
  rintro ⟨G, ρ, F, Own, hn, st, h⟩
  simp only [evS] at h
  refine ⟨ρ, F, Own, st.e, (AfS.of st h).imp fun t _ h => ?_⟩
  intro H' s
  cases t with
  | true => exact ⟨G, ρ, F, Own, hn, st.same s, h⟩
  | false => exact ⟨G, ρ, F, Own, hn, st.same s, h⟩

/-! ### name op= value -/
theorem augRead {i : Nat} {o : Bop} {ia : E} {ti : TIp} (ho : ∀ (x y : D) (z : D), augD o x y = some z → ∃ a b c, x = .int a ∧ y = .int b ∧ z = .int c ∧ ∀ H (Q : VK), Q (.int c) H → ti (.int a) (.int b) H Q) (hlo : n ≤ i) {Dn : Ends} {σ : L2.St} {H : Hp}
    (h : SS xs X.K W n (evS cl (.aug i o ia)) Dn σ H) : tAug i (SR xs X.K W (evE cl ia)) ti Dn σ H := by
  obtain ⟨G, ρ, F, Own, hn, st, h⟩ := h
  simp only [evS] at h
  cases e : ρ[i]? with
  | none => rw [e] at h; exact h.elim
  | some sl =>
  rw [e] at h
  cases sl with
  | val d =>
    obtain ⟨v, e2, r⟩ := st.env.getVal e
    refine ⟨v, e2, ρ, F, Own, st.e, (AfS.of st h).imp fun p _ h => ?_⟩
    intro y H1 s r1
    cases e3 : augD o d p.2 with
    | none => rw [e3] at h; exact h.elim
    | some z =>
      rw [e3] at h
      obtain ⟨a, b, c, rfl, e4, rfl, q⟩ := ho _ _ _ e3
      have rd := r1.rd
      rw [e4] at rd
      cases r
      cases rd.isInt
      refine q H1 _ ?_
      obtain ⟨o', st'⟩ := (st.same s).setV (i := i) (RepV.int c) (by omega)
      exact h _ H1 F o' st'
  | _ => exact h.elim
theorem augAdd {x y z : D} (e : augD .add x y = some z) : ∃ a b, x = .int a ∧ y = .int b ∧ z = .int (a + b) := by
  cases x <;> cases y <;> first | (cases e; exact ⟨_, _, rfl, rfl, rfl⟩) | cases e
theorem augSub {x y z : D} (e : augD .sub x y = some z) : ∃ a b, x = .int a ∧ y = .int b ∧ z = .int (a - b) := by
  cases x <;> cases y <;> first | (cases e; exact ⟨_, _, rfl, rfl, rfl⟩) | cases e
theorem cs_aadd {i : Nat} {x : Str} {ia : E} {pos' : Pos} (hN : X.N.Nodup) (hi : X.N[i]? = some x) (hx : Loc X.env.scope x) (he : CE xs W cl X e ia) (hlo : n ≤ i) (hf : X.fn x = true ∨ X.env.scope.names.lookup x = some .local) :
    CS xs W n cl X (.AugAssign (.Name x pos') .Add e pos) (.aug i .add ia) :=
  psImp (ps_aug hN hi hx he ip_add hf) fun _ _ _ h => augRead (fun x y z e => by
    obtain ⟨a, b, rfl, rfl, rfl⟩ := augAdd e
    exact ⟨_, _, _, rfl, rfl, rfl, fun H Q q => ⟨_, _, rfl, rfl, q⟩⟩) hlo h
theorem cs_asub {i : Nat} {x : Str} {ia : E} {pos' : Pos} (hN : X.N.Nodup) (hi : X.N[i]? = some x) (hx : Loc X.env.scope x) (he : CE xs W cl X e ia) (hlo : n ≤ i) (hf : X.fn x = true ∨ X.env.scope.names.lookup x = some .local) :
    CS xs W n cl X (.AugAssign (.Name x pos') .Sub e pos) (.aug i .sub ia) :=
  psImp (ps_aug hN hi hx he ip_sub hf) fun _ _ _ h => augRead (fun x y z e => by
    obtain ⟨a, b, rfl, rfl, rfl⟩ := augSub e
    exact ⟨_, _, _, rfl, rfl, rfl, fun H Q q => ⟨_, _, rfl, rfl, q⟩⟩) hlo h

/-! ### lists that grow -/
theorem getOwn_st {G : Gh} {H : Hp} {F : Fb} {ρ : List Slot} {σ : L2.St} {Own : List Addr} {i : Nat} {ds : List D} (st : StS X.K G H F ρ σ Own) (e : getOwn ρ i = some ds) : ∃ a vs, ρ[i]? = some (.own (.lst ds)) ∧ σ[i]? = some (some (.ref a)) ∧ H a = some (.lst vs) ∧ RepVs X.K H F ds vs ∧ a ∈ Own := by
  unfold getOwn at e
  split at e
  · rename_i ds' q
    cases e
    obtain ⟨a, vs, ds2, e3, e2, m, hH, r⟩ := st.env.getOwn (.inl q)
    cases e3
    exact ⟨a, vs, q, e2, hH, r, m⟩
  · cases e
theorem upd_other {H : Hp} {a : Addr} {o : HO} : ∀ b u, H b = some u → b ≠ a → upd H a o b = some u := fun b u h n => by rw [upd_ne n]; exact h
/-- what hangs on nothing that may change stays where a list is written -/
theorem written {K : PySem.W.Frag} {H : Hp} {F : Fb} {a : Addr} {ws ws' : List V} (hF : F a) (hH : H a = some (.lst ws)) : (∀ b o, H b = some o → ((∃ ys, o = .tup ys) ∨ ∃ ob u, o = .frz ob u) → upd H a (.lst ws') b = some o) ∧ ∀ b o, H b = some o → ¬ F b → upd H a (.lst ws') b = some o ∧ ¬ F b :=
  ⟨fun b o h ht => upd_other b o h (fun z => by
    subst z
    rw [hH] at h
    cases h
    rcases ht with ⟨_, z⟩ | ⟨_, _, z⟩ <;> cases z), fun b o h n => ⟨upd_other b o h fun z => n (z ▸ hF), n⟩⟩
variable {x : Str} {i : Nat} {p apos cpos : Pos}
theorem ty_md_append : typeOf (.builtin "list.append") = pure (.type "method_descriptor") := rfl
theorem ty_md_extend : typeOf (.builtin "list.extend") = pure (.type "method_descriptor") := rfl
theorem ty_md_pop : typeOf (.builtin "list.pop") = pure (.type "method_descriptor") := rfl
theorem cs_app {m : M} (hN : X.N[i]? = some x) (hv : Vis X.env.scope x) (hd : (x == ("__debug__" : Str)) = false) (hcd : (x == ("__classdict__" : Str)) = false) (he : CM xs W n cl X e m)
    (hbase : attributeBase (.Name x p) "append" X.env (eval (.Name x p) X.env) = eval (.Name x p) X.env)
    (hfew : ((backTo cpos (starEach [e] X.env)).all (fun x => !x.1) && (backToKw cpos (keywordEach [] X.env)).all (fun x => x.1.isSome) && decide ([e].length + ([] : List Keyword).length + (if ([] : List Keyword).isEmpty then 0 else 1) < 30)) = true)
    (hline : (apos.endLine == cpos.line) = true) (hs : starEach [e] X.env = [(false, eval e X.env)]) (hsw : swapsWith (.Call (.Attribute (.Name x p) "append" apos) [e] [] cpos) none pos.line X.env = pure false) :
    CS xs W n cl X (.Expr (.Call (.Attribute (.Name x p) "append" apos) [e] [] cpos) pos) (.app i m) := by
  refine psImp (ps_expr (pe_bm PySem.F.plainAttrs_list PySem.F.slot_list_append ty_md_append mt_append (pe_var hN hv hd hcd) (pa_cons he pa_nil hs) hbase hfew hline hs (by rfl)) hsw) fun Dn σ H => ?_
  rintro ⟨G, ρ, F, Own, hn, st, h⟩
  simp only [evS] at h
  cases e0 : getOwn ρ i with
  | none => rw [e0] at h; exact h.elim
  | some ds0 =>
  rw [e0] at h
  obtain ⟨a, vs0, q1, q2, q3, q4, q5⟩ := getOwn_st st e0
  refine ⟨.ref a, q2, .inl ⟨rfl, vs0, SqL.of q3⟩, G, ρ, F, Own, hn, st, (AfS.ofM (show AfS xs X.K W G Dn (.of (evM cl m ρ) _) from h)).imp fun q _ h => ?_⟩
  split at h
  · rename_i k d ρ' e1
    refine ⟨k, d, ρ', e1, fun v H' sk => ?_⟩
    cases e2 : getOwn ρ' i with
    | none => rw [e2] at h; exact h.elim
    | some ds =>
      rw [e2] at h
      dsimp only at h
      split at h
      · rename_i hz
        obtain ⟨F', Own', st', r⟩ := sk.val
        obtain ⟨a', vs, w1, w2, w3, w4, w5⟩ := getOwn_st st' e2
        rw [q2] at w2
        cases w2
        refine ⟨a, vs, v, rfl, rfl, w3, by rw [← w4.length, sizeLine_eq]; exact hz, ?_⟩
        have wr := written (K := X.K) (ws' := vs ++ [v]) (st'.sub a w5) w3
        exact h σ _ F' Own' (st'.write w1 q2 upd_other upd_same ((w4.append (.cons r .nil)).move wr.1 wr.2))
      · exact h.elim
  · exact h.elim
theorem rExtend_or {X : Cx} : MtR X "list.extend" (fun x vs H Q => rExtend x vs H Q ∨ rExtendT X.K x vs H Q) := MtR.or mt_extend mt_extendT
theorem cs_ext {ia : E} (hN : X.N[i]? = some x) (hv : Vis X.env.scope x) (hd : (x == ("__debug__" : Str)) = false) (hcd : (x == ("__classdict__" : Str)) = false) (he : CE xs W cl X e ia)
    (hbase : attributeBase (.Name x p) "extend" X.env (eval (.Name x p) X.env) = eval (.Name x p) X.env)
    (hfew : ((backTo cpos (starEach [e] X.env)).all (fun x => !x.1) && (backToKw cpos (keywordEach [] X.env)).all (fun x => x.1.isSome) && decide ([e].length + ([] : List Keyword).length + (if ([] : List Keyword).isEmpty then 0 else 1) < 30)) = true)
    (hline : (apos.endLine == cpos.line) = true) (hs : starEach [e] X.env = [(false, eval e X.env)]) (hsw : swapsWith (.Call (.Attribute (.Name x p) "extend" apos) [e] [] cpos) none pos.line X.env = pure false) :
    CS xs W n cl X (.Expr (.Call (.Attribute (.Name x p) "extend" apos) [e] [] cpos) pos) (.ext i ia) := by
  refine psImp (ps_expr (pe_bm PySem.F.plainAttrs_list PySem.F.slot_list_extend ty_md_extend rExtend_or (pe_var hN hv hd hcd) (pa_cons he pa_nil hs) hbase hfew hline hs (by rfl)) hsw) fun Dn σ H => ?_
  rintro ⟨G, ρ, F, Own, hn, st, h⟩
  simp only [evS] at h
  cases e0 : getOwn ρ i with
  | none => rw [e0] at h; exact h.elim
  | some ds =>
  rw [e0] at h
  obtain ⟨a, vs, q1, q2, q3, q4, q5⟩ := getOwn_st st e0
  refine ⟨.ref a, q2, .inl ⟨rfl, vs, SqL.of q3⟩, ρ, F, Own, st.e, (AfS.of st (show AfS xs X.K W G Dn (.of (evE cl ia ρ) _) from h)).imp fun p _ h => ?_⟩
  intro v H1 s r
  cases e1 : listOf p.2 with
  | none => rw [e1] at h; exact h.elim
  | some es =>
    rw [e1] at h
    dsimp only at h
    split at h
    · rename_i hz
      have st1 := st.same s
      have w3 := s _ _ q3
      have w4 := q4.same s
      have rd := r.rd
      have fin : ∀ ws, RepVs X.K H1 F es ws → Dn.nx σ (upd H1 a (.lst (vs ++ ws))) := fun ws rw_ => by
        have wr := written (K := X.K) (ws' := vs ++ ws) (st1.sub a q5) w3
        exact h σ _ F Own (st1.write q1 q2 upd_other upd_same ((w4.append rw_).move wr.1 wr.2))
      cases e2 : p.2 with
      | lst es' =>
        rw [e2] at e1 rd
        cases e1
        obtain ⟨b, ws, rfl, eb, rw_⟩ := rd.isLst'
        exact .inl ⟨a, b, vs, ws, rfl, rfl, w3, eb, by rw [← q4.length, ← rw_.length, sizeLine_eq]; exact hz, fin ws rw_⟩
      | tup es' =>
        rw [e2] at e1 rd
        cases e1
        obtain ⟨b, ws, rfl, eb, rw_⟩ := rd.isTup
        exact .inr ⟨a, b, vs, ws, rfl, rfl, w3, eb, by rw [← q4.length, ← rw_.length, sizeLine_eq]; exact hz, fin ws rw_⟩
      | _ => rw [e2] at e1; cases e1
    · exact h.elim
/-- the last of a list is taken out -/
theorem getLast_reps {K : PySem.W.Frag} {H : Hp} {F : Fb} {ds : List D} {vs : List V} {d : D} (r : RepVs K H F ds vs) (e : ds.getLast? = some d) : ∃ v, vs[vs.length - 1]? = some v ∧ RepV K H F d v := by
  rw [List.getLast?_eq_getElem?] at e
  rw [← r.length]
  exact r.get e
theorem dropLast_reps {K : PySem.W.Frag} {H : Hp} {F : Fb} {ds : List D} {vs : List V} (r : RepVs K H F ds vs) : RepVs K H F ds.dropLast vs.dropLast := by
  rw [List.dropLast_eq_take, List.dropLast_eq_take, r.length]
  exact r.take _
theorem cm_pop (hN : X.N[i]? = some x) (hv : Vis X.env.scope x) (hd : (x == ("__debug__" : Str)) = false) (hcd : (x == ("__classdict__" : Str)) = false)
    (hbase : attributeBase (.Name x p) "pop" X.env (eval (.Name x p) X.env) = eval (.Name x p) X.env) (hline : (apos.endLine == cpos.line) = true) :
    CM xs W n cl X (.Call (.Attribute (.Name x p) "pop" apos) [] [] cpos) (.pop i) := by
  refine peImp (pe_bm0 PySem.F.plainAttrs_list PySem.F.slot_list_pop ty_md_pop mt_pop (pe_var hN hv hd hcd) hbase hline) fun σ H Q => ?_
  rintro ⟨G, ρ, F, Own, hn, st, h⟩
  simp only [evM] at h
  cases e : ρ[i]? with
  | none => rw [e] at h; exact h.elim
  | some sl =>
  rw [e] at h
  cases sl with
  | own d =>
    obtain ⟨a, vs, ds, rfl, e2, m, hH, r⟩ := st.env.getOwn (.inl e)
    dsimp only at h
    cases e3 : ds.getLast? with
    | none => rw [e3] at h; exact h.elim
    | some d =>
      rw [e3] at h
      obtain ⟨k, d', ρ', e4, q⟩ := h
      cases e4
      obtain ⟨v, w1, w2⟩ := getLast_reps r e3
      have wr := written (K := X.K) (ws' := vs.dropLast) (st.sub a m) hH
      exact ⟨_, e2, .inl ⟨rfl, vs, SqL.of hH⟩, a, vs, v, rfl, rfl, hH, w1, q v _ ⟨F, Own, st.write e e2 upd_other upd_same ((dropLast_reps r).move wr.1 wr.2), w2.move wr.1 wr.2⟩⟩
  | _ => exact h.elim
theorem cs_pop (hN : X.N[i]? = some x) (hv : Vis X.env.scope x) (hd : (x == ("__debug__" : Str)) = false) (hcd : (x == ("__classdict__" : Str)) = false)
    (hbase : attributeBase (.Name x p) "pop" X.env (eval (.Name x p) X.env) = eval (.Name x p) X.env) (hline : (apos.endLine == cpos.line) = true) (hsw : swapsWith (.Call (.Attribute (.Name x p) "pop" apos) [] [] cpos) none pos.line X.env = pure false) :
    CS xs W n cl X (.Expr (.Call (.Attribute (.Name x p) "pop" apos) [] [] cpos) pos) (.popS i) := by
  refine psImp (ps_expr (cm_pop (xs := xs) (W := W) (n := n) (cl := cl) hN hv hd hcd hbase hline) hsw) fun Dn σ H => ?_
  rintro ⟨G, ρ, F, Own, hn, st, h⟩
  simp only [evS] at h
  refine ⟨G, ρ, F, Own, hn, st, (AfS.ofM h).imp fun q e h => ?_⟩
  have hk : q.1.1 = .v := by
    simp only [evM] at e
    split at e
    · split at e
      · cases e; rfl
      · cases e
    · cases e
  obtain ⟨⟨k, d⟩, ρ'⟩ := q
  cases hk
  refine ⟨.v, d, ρ', rfl, fun v H' sk => ?_⟩
  obtain ⟨F', o', st', _⟩ := sk
  exact h σ H' F' o' st'
end
end Ev
end

section
set_option Elab.async false
set_option linter.all false
set_option maxRecDepth 100000
set_option maxHeartbeats 1000000
/-! Ev1j: calls that are handed lists, loops, comprehensions that a name takes. -/
namespace Ev
open PySem PySem.Spec L2 PyProof.Rows
section
variable {X : Cx} {xs : Exs} {W : WX} {cl : Cl} {n : Nat} {pos : Pos} {e : Expr}

/-! ### f(m) -/
theorem cm_call1 {m : M} {x : Str} {p : Pos} {k : Nat} {f : Addr} {fd : FuncData} {ps : List Str} {j : Nat} (F : FnOk X.prog X.w X.K X.mg X.base (L2.CX X.prog X.w) k f fd ps (spD xs X.K cl j 0 1)) (hr : Room k X.A) (tk : Takes X W)
    (hg : Gl X x) (hm : X.mg x = some (.ref f)) (hk : PySem.W.keepIn X.K (.ref f) = true) (hb : Binds X.K fd ps []) (he : CM xs W n cl X e m) (hdb : (x == ("__debug__" : Str)) = false)
    (hs : starEach [e] X.env = [(false, eval e X.env)]) : CM xs W n cl X (.Call (.Name x p) [e] [] pos) (.call1 j m) := by
  refine peImp (pe_callS F hr hg hm hk hb (fun σ => passAt tk σ) (pa_cons he pa_nil hs) hdb hs (by rfl)) fun σ H Q => ?_
  rintro ⟨G, ρ, F, Own, hn, st, h⟩
  simp only [evM] at h
  refine ⟨G, ρ, F, Own, hn, st, h.bindM.imp fun q e1 h => ?_⟩
  obtain ⟨⟨kk, d⟩, ρ'⟩ := q
  cases kk with
  | f => exact h.elim
  | b => exact h.elim
  | v =>
  refine ⟨.v, d, ρ', by cases m <;> rfl, fun v H1 sk => ?_⟩
  obtain ⟨F1, O1, st1, r1⟩ := sk
  have h : AfM xs X.K W G σ ((cl j [d]).bind fun r => (afterCall false r).bind fun p => .ok (p, ρ')) _ := h
  refine ⟨rfl, [d], F1, [], .nil (.cons r1 .nil), List.nodup_nil, by simp, st1.ex, ?_⟩
  have h := h.bindM
  revert h
  cases cl j [d] with
  | stuck => exact fun h => h.elim
  | exn y a => exact fun h cls dd H' kp ex => h cls dd H' (pin_same st1 (keep_same kp)) ex
  | ok r =>
    intro h v' H' kp rs os'
    obtain ⟨k', d', os⟩ := r
    cases os'
    have h : AfM xs X.K W G σ ((afterCall false (k', d', [])).bind fun p => .ok (p, ρ')) _ := h
    cases k' with
    | b => exact h.elim
    | v =>
      obtain ⟨k2, d2, ρ2, e2, q⟩ := h
      cases e2
      exact q v' H' (sk_of st1 (keep_same kp) rs nofun)
    | f =>
      obtain ⟨k2, d2, ρ2, e2, q⟩ := h
      cases e2
      exact q v' H' (sk_of st1 (keep_same kp) rs.nob nofun)

/-! ### (a, m, c) -/
theorem cm_tup3 {a b c : Expr} {ia ic : E} {m : M} {kt : Nat} (ha : CE xs W cl X a ia) (hb : CM xs W n cl X b m) (hc : CE xs W cl X c ic) (h1 : starEach [a, b, c] X.env = (false, eval a X.env) :: starEach [b, c] X.env) (h2 : starEach [b, c] X.env = (false, eval b X.env) :: starEach [c] X.env)
    (h3 : starEach [c] X.env = [(false, eval c X.env)]) : CM xs W n cl X (.Tuple [a, b, c] kt pos) (.tup3 ia m ic) := by
  refine peImp (pe_tup (pa_cons ha (pa_cons hb (pa_cons hc pa_nil h3) h2) h1)) fun σ H Q => ?_
  rintro ⟨G, ρ, F, Own, hn, st, h⟩
  simp only [evM] at h
  refine ⟨ρ, F, Own, st.e, (AfM.bind st h).imp fun p e1 h => ?_⟩
  obtain ⟨k1, d1⟩ := p
  intro v1 H1 s1 r1
  cases k1 with
  | f => exact h.elim
  | b => exact h.elim
  | v =>
  have st1 := st.same s1
  -- the rest, with all that is nobody's held fast
  refine ⟨G.loop H1 F ρ σ Own G.lks, ρ, F, Own, hn, st1.into, ?_⟩
  have h : AfM xs X.K W G σ ((evM cl m ρ).bind fun q => match q.1.1 with
      | .v => (evE cl ic q.2).bind fun r => (match r.1 with
          | .v => .ok ((Kd.v, D.tup [d1, q.1.2, r.2]), q.2)
          | _ => .stuck)
      | _ => .stuck) _ := h
  have h := h.bindM
  revert h
  cases evM cl m ρ with
  | stuck => exact fun h => h.elim
  | exn y b => exact fun h cls dd H' pn ex => h cls dd H' (fun b o p => pn b o (st1.pin b o p)) ex
  | ok q =>
    intro h
    obtain ⟨⟨k2, d2⟩, ρ2⟩ := q
    cases k2 with
    | f => exact h.elim
    | b => exact h.elim
    | v =>
    refine ⟨.v, d2, ρ2, by cases m <;> rfl, fun v2 H2 sk => ?_⟩
    obtain ⟨F2, O2, st2, r2⟩ := sk
    have mv := st1.moves st2
    have st2' : StS X.K G H2 F2 ρ2 σ O2 := st1.outof st2 st2.lk
    have r1' : RepV X.K H2 F2 d1 v1 := RepV.move mv.1 mv.2 r1
    have h : AfM xs X.K W G σ ((evE cl ic ρ2).bind fun r => (match r.1 with
          | .v => .ok ((Kd.v, D.tup [d1, d2, r.2]), ρ2)
          | _ => .stuck)) _ := h
    refine ⟨ρ2, F2, O2, st2'.e, (AfM.bind st2' h).imp fun p3 e3 h => ?_⟩
    obtain ⟨k3, d3⟩ := p3
    intro v3 H3 s3 r3
    cases k3 with
    | f => exact h.elim
    | b => exact h.elim
    | v =>
    obtain ⟨k, d, ρ', e4, q⟩ := h
    cases e4
    show [v1, v2, v3].length ≤ sizeLine ∧ _
    refine ⟨by rw [sizeLine_eq]; simp, fun a ha => ?_⟩
    have su := same_upd (o := .tup [v1, v2, v3]) ha
    refine q _ _ ⟨F2, O2, (st2'.same s3).same su, .tup (SqT.of upd_same) ?_⟩
    exact .cons ((r1'.same s3).same su) (.cons ((r2.same s3).same su) (.cons (RepV.same su r3) .nil))

/-! ### f(xs, .., e, ..) where xs, .. are lists of ours that f may change -/
/-- the names' addresses, then values -/
def SAio (xs : Exs) (K : PySem.W.Frag) (W : WX) (is : List Nat) (g : List Slot → R (List (Kd × D))) : TA := fun σ H Q =>
  ∃ ρ F Own as, StE K H F ρ σ Own ∧ Paired (fun (i : Nat) a => σ[i]? = some (some (V.ref a))) is as ∧ After xs K W σ H (g ρ) fun ps => ∀ vs H', Same H H' → Paired (fun p v => Res K H H' F Own p v) ps vs → Q (as.map V.ref ++ vs) H'
theorem cio_nil {es : List Expr} {ies : Es} (h : PA X es (SRs xs X.K W (evEs cl ies))) : PA X es (SAio xs X.K W [] (evEs cl ies)) := paImp h fun σ H Q ⟨ρ, F, Own, as, hs, p, h⟩ => by
  cases p
  exact ⟨ρ, F, Own, hs, h⟩
theorem cio_cons {i : Nat} {x : Str} {p : Pos} {is : List Nat} {es : List Expr} {g : List Slot → R (List (Kd × D))} (hN : X.N[i]? = some x) (hv : Vis X.env.scope x) (hd : (x == ("__debug__" : Str)) = false) (hcd : (x == ("__classdict__" : Str)) = false)
    (hr : PA X es (SAio xs X.K W is g)) (hs : starEach (.Name x p :: es) X.env = (false, eval (.Name x p) X.env) :: starEach es X.env) : PA X (.Name x p :: es) (SAio xs X.K W (i :: is) g) := by
  refine paImp (pa_cons (pe_var hN hv hd hcd) hr hs) fun σ H Q => ?_
  rintro ⟨ρ, F, Own, as, hs, p, h⟩
  cases p with
  | cons q p => exact ⟨_, q, ρ, F, Own, _, hs, p, h⟩
theorem getOwns_st {G : Gh} {H : Hp} {F : Fb} {ρ : List Slot} {σ : L2.St} {Own : List Addr} (st : StS X.K G H F ρ σ Own) : ∀ {is : List Nat} {os : List D}, getOwns ρ is = some os → is.Nodup → ∃ as, Paired (fun (i : Nat) a => σ[i]? = some (some (V.ref a))) is as ∧
    Paired (fun i a => (∃ d, ρ[i]? = some (.own d)) ∧ σ[i]? = some (some (V.ref a))) is as ∧ as.Nodup ∧ (∀ a ∈ as, a ∈ Own ∧ ∃ i ∈ is, σ[i]? = some (some (V.ref a)) ∧ ∃ d, ρ[i]? = some (.own d)) ∧ os.length = is.length ∧
    ∀ H', (∀ a o, H a = some o → H' a = some o) → ∀ ds vs, RepVs X.K H' F ds vs → ArgR X.K H' F is.length (os ++ ds) (as.map V.ref ++ vs) as
  | [], _, e, _ => by
    cases e
    exact ⟨[], .nil, .nil, List.nodup_nil, (fun a h => by cases h), rfl, fun H' s ds vs r => .nil r⟩
  | i :: is, os, e, hn => by
    obtain ⟨n1, n2⟩ := List.nodup_cons.mp hn
    simp only [getOwns] at e
    cases e1 : getOwn ρ i with
    | none => rw [e1] at e; cases e
    | some ds =>
    cases e2 : getOwns ρ is with
    | none => rw [e1, e2] at e; cases e
    | some r =>
    rw [e1, e2] at e
    cases e
    obtain ⟨as, p1, p2, nd, pm, hl, ag⟩ := getOwns_st st e2 n2
    obtain ⟨a, vs, q1, q2, q3, q4, q5⟩ := getOwn_st st e1
    refine ⟨a :: as, .cons q2 p1, .cons ⟨⟨_, q1⟩, q2⟩ p2, List.nodup_cons.mpr ⟨fun m => ?_, nd⟩, fun b m => ?_, by simp [hl], fun H' s ds' vs' r => .cons (s _ _ q3) (q4.move (fun b o h _ => s b o h) fun b o h nb => ⟨s b o h, nb⟩) (ag H' s ds' vs' r)⟩
    · obtain ⟨_, j, mj, w2, d, w1⟩ := pm a m
      have := st.env.at_inj st.nd ⟨⟨_, .inl q1⟩, q2⟩ ⟨⟨d, .inl w1⟩, w2⟩
      subst this
      exact n1 mj
    · rcases List.mem_cons.mp m with rfl | m
      · exact ⟨q5, i, List.mem_cons_self .., q2, _, q1⟩
      · obtain ⟨w0, j, mj, w⟩ := pm b m
        exact ⟨w0, j, List.mem_cons_of_mem _ mj, w⟩
theorem cs_io {x : Str} {p cpos : Pos} {k : Nat} {f : Addr} {fd : FuncData} {ps : List Str} {j np : Nat} {is : List Nat} {es : List Expr} {ies : Es} (F : FnOk X.prog X.w X.K X.mg X.base (L2.CX X.prog X.w) k f fd ps (spD xs X.K cl j is.length np)) (hr : Room k X.A) (tk : Takes X W)
    (hg : Gl X x) (hm : X.mg x = some (.ref f)) (hk : PySem.W.keepIn X.K (.ref f) = true) (hb : Binds X.K fd ps []) (ha : PA X (e :: es) (SAio xs X.K W is (evEs cl ies))) (hdb : (x == ("__debug__" : Str)) = false)
    (he : starEach (e :: es) X.env = (false, eval e X.env) :: starEach es X.env) (hpl : (backTo cpos (starEach es X.env)).any (·.1) = false) (hnp : ∀ ρ qs, evEs cl ies ρ = .ok qs → is.length + qs.length = np)
    (hsw : swapsWith (.Call (.Name x p) (e :: es) [] cpos) none pos.line X.env = pure false) : CS xs W n cl X (.Expr (.Call (.Name x p) (e :: es) [] cpos) pos) (.io j is ies) := by
  refine psImp (ps_expr (pe_callS F hr hg hm hk hb (fun σ => passAt tk σ) ha hdb he hpl) hsw) fun Dn σ H => ?_
  rintro ⟨G, ρ, F, Own, hn, st, h⟩
  simp only [evS] at h
  by_cases hnd : is.Nodup
  rotate_left
  · rw [if_neg hnd] at h; exact h.elim
  rw [if_pos hnd] at h
  cases e0 : getOwns ρ is with
  | none => rw [e0] at h; exact h.elim
  | some os =>
  rw [e0] at h
  obtain ⟨as, p1, p2, nd, pm, hl, ag⟩ := getOwns_st st e0 hnd
  have hal : as.length = is.length := (Paired.length p1).symm
  refine ⟨ρ, F, Own, as, st.e, p1, (AfS.of st (show AfS xs X.K W G Dn (.of (evEs cl ies ρ) _) from h)).imp fun qs eq h => ?_⟩
  intro vs H1 s1 r1
  cases e1 : solid qs with
  | none => rw [e1] at h; exact h.elim
  | some ds =>
  rw [e1] at h
  have st1 := st.same s1
  have rv := solids st.ex r1 e1
  refine ⟨?_, os ++ ds, F, as, ag H1 s1 ds vs rv, nd, fun a m => st.sub a (pm a m).1, st1.ex, ?_⟩
  · rw [List.length_append, List.length_map, hal, ← Paired.length r1]
    exact hnp ρ qs eq
  have pk : ∀ {H'}, Keep as H1 H' → ∀ b o, G.pin b o → H' b = some o := fun {H'} kp b o pn => by
    refine kp b o (st1.pin b o pn).1 fun m => ?_
    obtain ⟨mo, i, _, w2, d, w1⟩ := pm b m
    rcases (st1.pin b o pn).2 with q | ⟨i', d', q1, q2⟩
    · exact q mo
    · have := st.env.at_inj st.nd ⟨⟨d, .inl w1⟩, w2⟩ ⟨⟨d', .inr q1⟩, q2⟩
      subst this
      rw [w1] at q1; cases q1
  have h : AfS xs X.K W G Dn (.of (cl j (os ++ ds)) fun r => if r.2.2.length = is.length then .nx (setOwns ρ is r.2.2) else .stuck) := h
  revert h
  cases cl j (os ++ ds) with
  | stuck => exact fun h => h.elim
  | exn y a => exact fun h cls dd H' kp ex => h cls dd σ H' (pk kp) ex
  | ok r =>
    intro h v H' kp rs ro
    have h : AfS xs X.K W G Dn (if r.2.2.length = is.length then .nx (setOwns ρ is r.2.2) else .stuck) := h
    split at h
    · exact h σ H' F Own (st1.outs hnd nd p2 (fun a m => st.sub a (pm a m).1) kp ro)
    · exact h.elim
end
end Ev
end

section
set_option Elab.async false
set_option linter.all false
set_option maxRecDepth 100000
set_option maxHeartbeats 1000000
/-! Ev1k: loops; a name that takes a comprehension. -/
namespace Ev
open PySem PySem.Spec L2 PyProof.Rows
section
variable {X : Cx} {xs : Exs} {W : WX} {cl : Cl} {n : Nat} {pos : Pos} {e : Expr}

/-! ### while -/
theorem whlRead {ic : E} {ib : Ss} {Dn : Ends} {σ : L2.St} {H : Hp} (h : SS xs X.K W n (evS cl (.whl ic ib)) Dn σ H) : tWhile (ST xs X.K W fun ρ => truthR (evE cl ic ρ)) (SS xs X.K W n (evSs cl ib)) Dn σ H := by
  obtain ⟨G, ρ, F, Own, hn, st, h⟩ := h
  simp only [evS] at h
  refine ⟨fun m σ H => ∃ ρ F Own, StS X.K G H F ρ σ Own ∧ AfS xs X.K W G Dn (whlGo (fun ρ => truthR (evE cl ic ρ)) (fun ρ => evSs cl ib ρ) m ρ), ⟨_, ρ, F, Own, st, h⟩, ?_⟩
  rintro m σ H ⟨ρ, F, Own, st, h⟩
  cases m with
  | zero => exact h.elim
  | succ m =>
  simp only [whlGo] at h
  refine ⟨ρ, F, Own, st.e, (AfS.of st h).imp fun b _ h => ?_⟩
  intro H1 s1
  cases b with
  | false => exact h σ H1 F Own (st.same s1)
  | true =>
    rw [if_pos rfl] at h
    rw [if_pos rfl]
    refine ⟨fun σ' H' => ∃ ρ F Own, StS X.K G H' F ρ σ' Own ∧ AfS xs X.K W G Dn (whlGo (fun ρ => truthR (evE cl ic ρ)) (fun ρ => evSs cl ib ρ) m ρ), fun σ' H' w => ⟨m, Nat.lt_succ_self m, w⟩, G, ρ, F, Own, hn, st.same s1, ?_⟩
    revert h
    cases evSs cl ib ρ with
    | nx ρ' => exact fun h σ' H' F' o' st' => ⟨ρ', F', o', st', h⟩
    | ct ρ' => exact fun h σ' H' F' o' st' => ⟨ρ', F', o', st', h⟩
    | bk ρ' => exact fun h => h
    | rt k d ρ' => exact fun h => h
    | exn x a => exact fun h => h
    | stuck => exact fun h => h
theorem cs_whl {c : Expr} {body : List Stmt} {ic : E} {ib : Ss} (hp : PassesOwn (model X.prog X.w) X.A X.env X.xe) (hc : CT xs W cl X c ic) (hb : CSs xs W n cl X body ib) : CS xs W n cl X (.While c body [] pos) (.whl ic ib) :=
  psImp (ps_while hp hc hb) fun _ _ _ h => whlRead h

/-! ### for -/
/-- the step that a for's turn takes -/
def fStep (cl : Cl) (tg : Tg) (ib : Ss) (d : D) (ρ : List Slot) : Out := match setTg tg d ρ with | some ρ' => evSs cl ib ρ' | none => .stuck
/-- the turns, once it is known what is walked: G' holds fast all that is nobody's -/
theorem forCore {tg : Tg} {ib : Ss} {Dn : Ends} {σ₀ : L2.St} {H₀ : Hp} {F₀ : Fb} {ρ₀ : List Slot} {Own₀ : List Addr} {G G' : Gh} {l : Option (Nat × D)} {src : Src} {ds : List D} (hn : G'.os.length = n) (hlo : tgLo n tg = true)
    (st₀ : StS X.K G' H₀ F₀ ρ₀ σ₀ Own₀) (hsrc : SrcR X.K H₀ F₀ src ds)
    (keep : ∀ {H F ρ σ Own}, StS X.K G' H F ρ σ Own → SrcR X.K H F src ds)
    (back : ∀ {H F ρ σ Own}, StS X.K G' H F ρ σ Own → StS X.K G H F (unlock l ρ) σ Own)
    (pins : ∀ b o, G.pin b o → G'.pin b o) (olds : G'.old = G.old) (h : AfS xs X.K W G Dn (unlockO l (forGo (fStep cl tg ib) ds ρ₀))) :
    ∃ V : Nat → Nat → L2.St → Hp → Prop, (∃ m, V 0 m σ₀ H₀) ∧ ∀ i m σ H, V i m σ H →
      ((src.it X.K).stop i H ∧ Dn.nx σ H) ∨ ((src.it X.K).go i H ∧ ∃ N : L2.St → Hp → Prop, (∀ σ' H', N σ' H' → ∃ m', m' < m ∧ V (i + 1) m' σ' H') ∧
        ∀ x H', (src.it X.K).yld i H x H' → tgOf X.K tg x σ H' fun σ2 H2 => SS xs X.K W n (evSs cl ib) { Dn with nx := N, ct := N, bk := Dn.nx } σ2 H2) := by
  refine ⟨fun i m σ H => m = ds.length - i ∧ i ≤ ds.length ∧ ∃ ρ F Own, StS X.K G' H F ρ σ Own ∧ AfS xs X.K W G Dn (unlockO l (forGo (fStep cl tg ib) (ds.drop i) ρ)), ⟨ds.length, by simp, Nat.zero_le _, ρ₀, F₀, Own₀, st₀, h⟩, ?_⟩
  rintro i m σ H ⟨rfl, hi, ρ, F, Own, st, h⟩
  by_cases hlt : i < ds.length
  · refine .inr ⟨(keep st).go hlt, fun σ' H' => i + 1 ≤ ds.length ∧ ∃ ρ F Own, StS X.K G' H' F ρ σ' Own ∧ AfS xs X.K W G Dn (unlockO l (forGo (fStep cl tg ib) (ds.drop (i + 1)) ρ)), fun σ' H' w => ⟨ds.length - (i + 1), by omega, rfl, w⟩, fun x H' y => ?_⟩
    obtain ⟨rfl, rx⟩ := (keep st).yld (List.getElem?_eq_getElem hlt) y
    rw [List.drop_eq_getElem_cons hlt] at h
    simp only [forGo] at h
    unfold fStep at h
    cases et : setTg tg ds[i] ρ with
    | none => rw [et] at h; exact h.elim
    | some ρ' =>
    rw [et] at h
    dsimp only at h
    refine st.setTg rx et (by rw [hn]; exact hlo) fun σ' Own' st' => ⟨G', ρ', F, Own', hn, st', ?_⟩
    revert h
    cases evSs cl ib ρ' with
    | nx ρ2 => exact fun h σ2 H2 F2 o2 st2 => ⟨hlt, ρ2, F2, o2, st2, h⟩
    | ct ρ2 => exact fun h σ2 H2 F2 o2 st2 => ⟨hlt, ρ2, F2, o2, st2, h⟩
    | bk ρ2 => exact fun h σ2 H2 F2 o2 st2 => h σ2 H2 F2 o2 (back st2)
    | rt k d ρ2 =>
      intro h v σ2 H2 F2 o2 st2 r
      refine h v σ2 H2 F2 o2 (back st2) ?_
      cases k with
      | v => exact r
      | b => exact r
      | f =>
        obtain ⟨a, vs, ds, e1, e2, no, e3, e4⟩ := r
        exact ⟨a, vs, ds, e1, e2, olds ▸ no, e3, e4⟩
    | exn x a => exact fun h cls dd σ2 H2 pn ex => h cls dd σ2 H2 (fun b o p => pn b o (pins b o p)) ex
    | stuck => exact fun h => h.elim
  · have e : i = ds.length := by omega
    subst e
    refine .inl ⟨(keep st).stop (Nat.le_refl _), ?_⟩
    rw [List.drop_length] at h
    exact h σ H F Own (back st)
/-- an iterable that no name owns -/
theorem forRead {tg : Tg} {k : Itk} {it : Es} {ib : Ss} {Dn : Ends} {σ : L2.St} {H : Hp} (hlo : tgLo n tg = true) (hnv : ∀ ρ, lockOf k it ρ = none) (h : SS xs X.K W n (evS cl (.forS tg k it ib)) Dn σ H) :
    tFor (SI xs X.K W (evEs cl it) k) (tgOf X.K tg) (SS xs X.K W n (evSs cl ib)) Dn σ H := by
  obtain ⟨G, ρ, F, Own, hn, st, h⟩ := h
  simp only [evS] at h
  refine ⟨ρ, F, Own, st.e, (AfS.of st h).imp fun ps _ h => ?_⟩
  cases e1 : itemsOf k (ps.map (·.2)) with
  | none => rw [e1] at h; exact h.elim
  | some ds =>
  rw [e1] at h
  dsimp only at h
  refine ⟨ds, rfl, fun src H1 s1 hsrc hown => ?_⟩
  cases hb : hasB ps with
  | true => rw [hb, if_pos rfl, hnv] at h; exact h.elim
  | false =>
  rw [hb, if_neg Bool.false_ne_true] at h
  have st1 := st.same s1
  refine forCore (G := G) (G' := G.loop H1 F ρ σ Own G.lks) (l := none) (ρ₀ := ρ) (F₀ := F) (Own₀ := Own) hn hlo st1.into hsrc (fun {H2 F2 ρ2 σ2 O2} st2 => ?_) (fun {H2 F2 ρ2 σ2 O2} st2 => st1.outof st2 st2.lk) (fun b o p => st1.pin b o p) rfl h
  have mv := st1.moves st2
  refine hsrc.move mv.1 mv.2 fun a ea => ?_
  subst ea
  obtain ⟨vs, e, _⟩ := hsrc
  rw [e]
  exact (st2.pin a _ ⟨e, .inl (hown a rfl hb)⟩).1
theorem cs_for {tg : Tg} {k : Itk} {it : Es} {ib : Ss} {tgE iter : Expr} {body : List Stmt} (hp : PassesOwn (model X.prog X.w) X.A X.env X.xe) (hc : X.calm = true) (hi : PI X tgE iter (SI xs X.K W (evEs cl it) k)) (hg : PG X tgE (tgOf X.K tg)) (hb : CSs xs W n cl X body ib)
    (hlo : tgLo n tg = true) (hnv : ∀ ρ, lockOf k it ρ = none) (hs : ∀ x, foldedSetIterable iter X.env x = pure x) : CS xs W n cl X (.For tgE iter body [] pos) (.forS tg k it ib) :=
  psImp (ps_for hp hc hi hg hb hs) fun _ _ _ h => forRead hlo hnv h
/-- the walk over a name's value -/
def SIv (K : PySem.W.Frag) (j : Nat) : TI := fun σ H R => tVar j σ H fun x H1 =>
    (∃ a, x = .ref a ∧ (∃ ys, SqL K H1 a ys) ∧ R (Itl K a) H1) ∨ (∃ a, x = .ref a ∧ (∃ ys, SqT K H1 a ys) ∧ R (Itt K a) H1) ∨ ∃ z, x = .str z ∧ R (Its z) H1
theorem forReadV {tg : Tg} {j : Nat} {ib : Ss} {Dn : Ends} {σ : L2.St} {H : Hp} (hlo : tgLo n tg = true) (h : SS xs X.K W n (evS cl (.forS tg .seq (.cons false (.var j) .nil) ib)) Dn σ H) :
    tFor (SIv X.K j) (tgOf X.K tg) (SS xs X.K W n (evSs cl ib)) Dn σ H := by
  obtain ⟨G, ρ, F, Own, hn, st, h⟩ := h
  simp only [evS, evEs, evE, getV] at h
  show ∃ v, σ[j]? = some (some v) ∧ _
  cases e : ρ[j]? with
  | none => rw [e] at h; exact h.elim
  | some sl =>
  rw [e] at h
  cases sl with
  | none => exact h.elim
  | val d =>
    obtain ⟨v, e2, r⟩ := st.env.getVal e
    have h : AfS xs X.K W G Dn (match itemsOf .seq [d] with
      | some ds => unlockO none (forGo (fStep cl tg ib) ds ρ)
      | none => .stuck) := h
    cases e1 : itemsOf .seq [d] with
    | none => rw [e1] at h; exact h.elim
    | some ds =>
    rw [e1] at h
    dsimp only at h
    refine ⟨v, e2, ?_⟩
    have go : ∀ src, SrcR X.K H F src ds → (∀ a, src = .lst a → a ∉ Own) → _ := fun src hsrc hown => forCore (xs := xs) (W := W) (cl := cl) (Dn := Dn) (tg := tg) (ib := ib) (G := G) (l := none) (ρ₀ := ρ) (F₀ := F) (Own₀ := Own) (G' := G.loop H F ρ σ Own G.lks) (src := src) hn hlo st.into hsrc (fun {H2 F2 ρ2 σ2 O2} st2 => by
      have mv := st.moves st2
      refine hsrc.move mv.1 mv.2 fun a ea => ?_
      subst ea
      obtain ⟨vs, e, _⟩ := hsrc
      rw [e]
      exact (st2.pin a _ ⟨e, .inl (hown a rfl)⟩).1) (fun {H2 F2 ρ2 σ2 O2} st2 => st.outof st2 st2.lk) (fun b o p => st.pin b o p) rfl h
    rcases seq_inv e1 with e3 | e3 | ⟨z, e3, rfl⟩
    · obtain rfl : d = .lst ds := by simpa using e3
      cases r with
      | lst hH nf r => exact .inl ⟨_, rfl, ⟨_, SqL.of hH⟩, go (.lst _) ⟨_, hH, r⟩ fun a ea m => by cases ea; exact nf (st.sub _ m)⟩
    · obtain rfl : d = .tup ds := by simpa using e3
      cases r with
      | tup hH r => exact .inr (.inl ⟨_, rfl, ⟨_, hH⟩, go (.tup _) ⟨_, hH, r⟩ fun a ea => nomatch ea⟩)
    · obtain rfl : d = .str z := by simpa using e3
      cases r with
      | str _ ok => exact .inr (.inr ⟨_, rfl, go (.str z) ⟨ok, rfl⟩ fun a ea => nomatch ea⟩)
  | own d =>
    obtain ⟨a, vs, ds, rfl, e2, m, hH, r⟩ := st.env.getOwn (.inl e)
    have h : AfS xs X.K W G Dn (match lockOf .seq (.cons false (.var j) .nil) ρ with
      | some l => unlockO l (forGo (fStep cl tg ib) ds (lockIt l ρ))
      | none => .stuck) := h
    simp only [lockOf, e] at h
    refine ⟨_, e2, .inl ⟨a, rfl, ⟨_, SqL.of hH⟩, ?_⟩⟩
    have lo := st.lock e e2
    refine forCore (G := G) (G' := G.loop H F (ρ.set j (.lck (.lst ds))) σ Own fun i b => (i = j ∧ b = a) ∨ (i ≠ j ∧ G.lks i b)) (l := some (j, .lst ds)) (src := .lst a) hn hlo lo ⟨vs, hH, r⟩ (fun {H2 F2 ρ2 σ2 O2} st2 => ?_) (fun {H2 F2 ρ2 σ2 O2} st2 => st.unlock e e2 st2) (fun b o p => ⟨(st.pin b o p).1, frz_lock (st.pin b o p).2⟩) rfl h
    have mv := st.moves' st2
    refine SrcR.move (src := .lst a) mv.1 mv.2 (fun a' ea => ?_) ⟨vs, hH, r⟩
    cases ea
    rw [hH]
    exact (st2.pin a _ ⟨hH, .inr ⟨j, _, List.getElem?_set_self (lt_of_get e), e2⟩⟩).1
  | lck d =>
    obtain ⟨a, vs, ds, rfl, e2, m, hH, r⟩ := st.env.getOwn (.inr e)
    have h : AfS xs X.K W G Dn (match lockOf .seq (.cons false (.var j) .nil) ρ with
      | some l => unlockO l (forGo (fStep cl tg ib) ds (lockIt l ρ))
      | none => .stuck) := h
    simp only [lockOf, e] at h
    refine ⟨_, e2, .inl ⟨a, rfl, ⟨_, SqL.of hH⟩, ?_⟩⟩
    refine forCore (G := G) (G' := G.loop H F ρ σ Own G.lks) (l := none) (src := .lst a) (ρ₀ := ρ) (F₀ := F) (Own₀ := Own) hn hlo st.into ⟨vs, hH, r⟩ (fun {H2 F2 ρ2 σ2 O2} st2 => ?_) (fun {H2 F2 ρ2 σ2 O2} st2 => st.outof st2 st2.lk) (fun b o p => st.pin b o p) rfl h
    have mv := st.moves st2
    refine SrcR.move (src := .lst a) mv.1 mv.2 (fun a' ea => ?_) ⟨vs, hH, r⟩
    cases ea
    rw [hH]
    exact (st2.pin a _ ⟨hH, .inr ⟨j, _, e, e2⟩⟩).1
theorem cs_forV {tg : Tg} {j : Nat} {x : Str} {p : Pos} {ib : Ss} {tgE : Expr} {body : List Stmt} (hp : PassesOwn (model X.prog X.w) X.A X.env X.xe) (hc : X.calm = true) (hN : X.N[j]? = some x) (hv : Vis X.env.scope x) (hd : (x == ("__debug__" : Str)) = false) (hcd : (x == ("__classdict__" : Str)) = false)
    (hg : PG X tgE (tgOf X.K tg)) (hb : CSs xs W n cl X body ib) (hlo : tgLo n tg = true) (hs : ∀ y, foldedSetIterable (.Name x p) X.env y = pure y) : CS xs W n cl X (.For tgE (.Name x p) body [] pos) (.forS tg .seq (.cons false (.var j) .nil) ib) :=
  psImp (ps_for hp hc (piAny (pe_var hN hv hd hcd)) hg hb hs) fun _ _ _ h => forReadV hlo h

/-! ### name = [..] on one line -/
theorem sm_sr {ia : E} {σ : L2.St} {H : Hp} {Q : VK} (hv : isVar ia = false) (h : SM xs X.K W n cl (.e ia) σ H Q) : SR xs X.K W (evE cl ia) σ H Q := by
  obtain ⟨G, ρ, F, Own, hn, st, h⟩ := h
  refine ⟨ρ, F, Own, st.e, (AfM.bind st h).imp fun p _ h => ?_⟩
  intro v H' s r
  obtain ⟨k, d, ρ', e1, q⟩ := h
  rcases sinkE_ok e1 with ⟨e2, e3, hk⟩ | ⟨j, rfl, _⟩
  · cases e2; cases e3
    exact q v H' (sk_of st s r hk)
  · cases hv
theorem cs_setLc {i : Nat} {y : Str} {py : Pos} {elt tgE iter : Expr} {ifs : List Expr} {scope : Scope} {own : List (Str × Nat)} {pos spos : Pos} {tg : Tg} {k : Itk} {it : Es} {ic ie : E} (hc : X.calm = true) (hN : X.N.Nodup) (hy : X.N[i]? = some y) (hyl : X.env.scope.names.lookup y = some .local)
    (hsw : swapsWith (.ListComp elt [⟨tgE, iter, ifs, 0⟩] scope pos) (some (.Name y py)) spos.line X.env = pure true) (hi : PI X tgE iter (SI xs X.K W (evEs cl it) k)) (ok : BlkOk X.N X.env.scope scope own)
    (B : BlkE xs cl X scope tgE tg ifs ic elt ie) (hin : tgIn tg (own.map (·.2)) = true) (hs : ∀ x, foldedSetIterable iter X.env x = pure x) (hlo : n ≤ i) :
    CS xs W n cl X (.Assign [.Name y py] (.ListComp elt [⟨tgE, iter, ifs, 0⟩] scope pos) spos) (.asg (.one i) (.cmpr (own.map (·.2)) tg k it ic ie)) :=
  psImp (ps_setLc hc hN hy hyl hsw hi ok B.tg B.ifs B.elt hs) fun _ _ _ h => lcRead hin (sm_sr rfl (asg_ok (tg := .one i) (by simpa [tgLo] using hlo) asgE_eq h))
end
end Ev
end

section
set_option Elab.async false
set_option linter.all false
set_option maxRecDepth 100000
set_option maxHeartbeats 2000000
/-! EvX: own errors over Exception whose __init__ keeps one field, at: raised, caught, read. -/
namespace PySem
namespace EvErr
open PySem.W PySem.Calls PyProof.Rows PySem.HandSPX Builtin Builtin.ObjectAttr
abbrev bmE : List Value := [.type "Exception", .type "BaseException", .type "object"]
def iA (p1 p2 : Pos) : Arguments := { posonlyargs := [], args := [{ arg := "self", annotation := none, pos := p1 }, { arg := "at", annotation := none, pos := p2 }], vararg := none, kwonlyargs := [], kw_defaults := [], kwarg := none, defaults := [] }
def iB (q1 q2 q3 q4 : Pos) : List Stmt := [.Assign [.Attribute (.Name "self" q1) "at" q2] (.Name "at" q3) q4]
def iS : Scope := { kind := .function, names := [(PySem.Str.ofString "self", .local), (PySem.Str.ofString "at", .local)], isGenerator := false, isCoroutine := false, more := [] }
/-- what the written part says of the class at C, of the name nm, and of its __init__, at fI -/
structure ErrTxt (K : Frag) (mg : Str → Option Value) (nm : Str) (C fI : Addr) : Prop where
  gC : mg nm = some (.ref C)
  cls : ∃ nm' q N bs bm sn sub ab col dd k0 k1 k2 k3 k5, K.lookup C = some (excClassObj nm' q C N bs bm true sn sub ab col dd k0 k1 k2 k3 k5 "Exception.__new__") ∧ excTail bmE bm = true
  sa : findIn K (.ref C) "__setattr__" = some (some (.builtin "object.__setattr__"))
  ga : findIn K (.ref C) "__getattribute__" = some (some (.builtin "BaseException.__getattribute__"))
  gg : findIn K (.ref C) "__getattr__" = some none
  noN : findIn K (.ref C) "at" = some none
  iC : findIn K (.ref C) "__init__" = some (some (.ref fI))
  tC : typeIn K (.ref fI) = some (.type "function")
  kC : keepIn K (.ref C) = true
  exC : subIn K (.ref C) (.type "BaseException") = some true
  tyC : typeIn K (.ref C) = some (.type "type")
  hdC : hasDictIn K C = true
  fn : ∃ (qn : Str) (oc : Value) (od : Option Addr) (kV doc pm : Value) (an : Option Addr) (cdv ct : Value) (osl : Array (Option Value)) (p1 p2 q1 q2 q3 q4 : Pos),
    K.lookup fI = some ⟨oc, od, .func (fnOf "__init__" qn (iA p1 p2) (iB q1 q2 q3 q4) iS .none kV doc pm an cdv ct), osl⟩ ∧ codeIn K cdv qn = true
theorem kept1 {K : Frag} {h h' : Heap} {x : Addr} (X : K.In h) (hx : K.lookup x = none) (k : ∀ b o, b ≠ x → h.get? b = some o → h'.get? b = some o) : K.In h' := fun a o e =>
  k a o (fun z => by rw [z, hx] at e; cases e) (X a o e)
theorem ldL {M : Model} {s : Shared} {name : Str} {scope : Scope} {L a : Addr} {cd : Value} {m : Str → Option Value} {x : Str} {pos : Pos} {v : Value} {Q : Value → Shared → Prop} {A : Around} {E : Value → Shared → Prop} (hn : s.heap.Ns L m) (hv : m x = some v) (h : Q v s)
    (hk : scope.kind = .function := by rfl) (hl : (envOfC name scope L a cd).kindOf x = some .local := by rfl) (hd : (x == ("__debug__" : Str)) = false := by decide) :
    wpAny M A (eval (.Name x pos) (envOfC name scope L a cd)) Q E s := wpAny_Name (wpAny_loadName_local hk hl hn hv h) hd
/-- what __init__ leaves -/
structure IEnd (h h' : Heap) (x C dx t1 : Addr) (v : Value) : Prop where
  keep : ∀ b o, b ≠ x → h.get? b = some o → h'.get? b = some o
  obj : h'.get? x = some { cls := .ref C, dict := some dx, data := .fields #[.ref t1, .none, .none, .none, .bool false, .none] }
  dbig : h.objs.size ≤ dx
  dne : dx ≠ x
  ns : h'.Ns1 dx (fun y => if y = "at" then some v else none)
structure Made (h h' : Heap) (e C d : Addr) (v : Value) : Prop where
  keep : ∀ b o, h.get? b = some o → h'.get? b = some o
  new : h.objs.size ≤ e
  obj : ∃ oe vs, h'.get? e = some oe ∧ oe.cls = .ref C ∧ oe.dict = some d ∧ oe.data = .fields vs ∧ vs[1]? = some .none
  dbig : h.objs.size ≤ d
  dne : d ≠ e
  ns : h'.Ns1 d (fun y => if y = "at" then some v else none)
section
variable {prog : Program} {w : World} {A : Around} {E : Value → Shared → Prop} {R : Result → Shared → Prop} {s : Shared} {K : Frag} {mg : Str → Option Value} {nm : Str} {C fI : Addr}
/-- the first store to an exception over Exception -/
theorem osaE {hp : Heap} {g : Array GenState} {d : Drawn} {t : Nat} {os : OsState} {name : Str} {tk : Tok} {v : Value} {x C : Addr} {fv : Array Value} {cd : ClassData}
    (X : K.In hp) (hx : hp.get? x = some { cls := .ref C, data := .fields fv }) (hcd : W.clsIn K C = some cd) (hm : excOver K C bmE = true) (hh : cd.hasDict = true) (ha : W.findIn K (.ref C) name = some none)
    (hq : ∀ h' tk' dx, (∀ b o, b ≠ x → hp.get? b = some o → h'.get? b = some o) → hp.objs.size ≤ dx → dx ≠ x → h'.get? x = some { cls := .ref C, dict := some dx, data := .fields fv } →
      h'.Ns1 dx (fun y => if y = name then some v else none) → R (.ok (.ret .none)) ⟨h', g, d, tk', os⟩) :
    codeAny (model prog w) A (.call (.builtin "object.__setattr__") ⟨[.ref x, .str name tk, v], []⟩) R ⟨hp, g, d, t, os⟩ := by
  have I : W.InstAt hp x { cls := .ref C, data := .fields fv } C none := ⟨hx, rfl, rfl, trivial⟩
  have hxs : x ≠ hp.objs.size := Nat.ne_of_lt (Heap.lt_size hx)
  refine osa_openX (s := ⟨hp, g, d, t, os⟩) F.store_Exception X I hm (r := none) (by unfold takerIn; rw [ha]; rfl) fun b => ?_
  have hcls : W.Looks (model prog w) hp (classData C) cd := W.looks_clsIn X hcd
  show wpAny _ _ (storeInOwnDict (.ref x) (.ref C) (.str name tk) name v b) _ _ _
  obtain ⟨nm, bs, mro, ns, qn, hd, sn, sb, ab, col, del⟩ := cd
  dsimp only at hh
  subst hh
  unfold storeInOwnDict ownDictForStores
  repeat (first | with_reducible refine store_in_new ?_ ?_ | with_reducible refine wpAny_loadPart_at hx ?_ | with_reducible refine hcls.at ?_ | wp_step)
  · exact ⟨_, #[], _, (Heap.get?_update_ne _ _ _ _ hxs.symm).trans (Heap.get?_push_at rfl rfl), rfl, fun e he => absurd he (by simp), fun _ => rfl⟩
  · intro h' tk' hn' hs
    have hx₁ : (hp.push { cls := .type "dict", data := .dict #[] }).get? x = some { cls := .ref C, data := .fields fv } := Heap.get?_push_of_some _ hx
    refine hq h' tk' hp.objs.size (fun b o hb ho => ?_) (Nat.le_refl _) hxs.symm ?_ hn'
    · exact (hs.2 b (Nat.ne_of_lt (Heap.lt_size ho))).trans ((Heap.get?_update_ne _ _ _ _ hb).trans (Heap.get?_push_of_some _ ho))
    · exact (hs.2 x hxs).trans (Heap.get?_update_self _ hx₁ rfl)
theorem over_of (T : ErrTxt K mg nm C fI) : excOver K C bmE = true := by
  obtain ⟨nm', q, N, bs, bm, sn, sub, ab, col, dd, k0, k1, k2, k3, k5, hC, hbm⟩ := T.cls
  unfold excOver clsIn
  rw [hC]
  simp [hbm]
theorem err_init (T : ErrTxt K mg nm C fI) {x t0 : Addr} {v : Value} (X : K.In s.heap) (hlim : s.heap.NoLimit) (hx : s.heap.get? x = some (excO C t0)) (hnx : K.lookup x = none) (hroom : A.depth < recursionLimit)
    (hq : ∀ h' tk dx, IEnd s.heap h' x C dx t0 v → R (.ok (.ret .none)) { s with heap := h', toks := tk }) :
    codeAny (model prog w) A (.call (.ref fI) ⟨[.ref x, v], []⟩) R s := by
  obtain ⟨qn, oc, od, kV, doc, pm, an, cdv, ct, osl, p1, p2, q1, q2, q3, q4, ho, hcd⟩ := T.fn
  have hov := over_of T
  obtain ⟨nm', q, N, bs, bm, sn, sub, ab, col, dd, k0, k1, k2, k3, k5, hC, hbm⟩ := T.cls
  have hcl : clsIn K C = some { name := nm', bases := bs, mro := .ref C :: bm, ns := N, qualname := q, hasDict := true, slotNames := sn, subclasses := sub, abstract := ab, collection := col, hasDel := false } := by unfold clsIn; rw [hC] <;> rfl
  refine Att.call_fn (binds := [("self", .ref x), ("at", v)]) X hlim ho hcd hroom (BindsTo.of_eq (by first | rfl | with_unfolding_all rfl)) (by first | rfl | decide | with_unfolding_all rfl) (fun s₁ IC => ?_) rfl rfl rfl
  obtain ⟨h₁, tk₁, rfl⟩ := IC.toInCall.same
  have k : ∀ b o, s.heap.get? b = some o → h₁.get? b = some o := IC.toInCall.keep
  have hn := IC.toInCall.ns
  have hxL : s.heap.objs.size ≠ x := Nat.ne_of_gt (Heap.lt_size hx)
  have X₁ : K.In h₁ := X.keeps k
  have hx₁ := k _ _ hx
  show wpAny _ _ (execs _ _) _ _ _
  refine wpAny_execs_cons (plainObj_wpAny_Assign_Attribute ?_)
  refine ldL (v := v) hn (by first | rfl | with_unfolding_all rfl | kernel_rfl) (ldL (v := .ref x) hn (by first | rfl | with_unfolding_all rfl | kernel_rfl) ?_)
  refine set_plain X₁ (ox := excO C t0) (od := none) ⟨hx₁, rfl, rfl, trivial⟩ T.sa ?_
  refine osaE X₁ hx₁ hcl hov rfl T.noN (fun h₃ tk₃ dx k₃ dn dne hx₃ hn₃ => ?_)
  show wpAny _ _ (execs _ _) _ _ _
  have z : s.heap.objs.size < h₁.objs.size := hn.lt
  exact wpAny_execs_nil (hq h₃ tk₃ dx ⟨fun b o hb e => k₃ b o hb (k b o e), hx₃, Nat.le_of_lt (Nat.lt_of_lt_of_le z dn), dne, hn₃⟩)
theorem err_made (T : ErrTxt K mg nm C fI) {v : Value} (X : K.In s.heap) (hlim : s.heap.NoLimit) (hroom : A.depth + 1 < recursionLimit)
    (hq : ∀ h' tk e d, Made s.heap h' e C d v → R (.ok (.ret (.ref e))) { s with heap := h', toks := tk }) :
    codeAny (model prog w) A (.call (.ref C) ⟨[v], []⟩) R s := by
  obtain ⟨nm', q, N, bs, bm, sn, sub, ab, col, dd, k0, k1, k2, k3, k5, hC, hbm⟩ := T.cls
  obtain ⟨hp, g, dr, tk, os⟩ := s
  have k : ∀ b o, hp.get? b = some o → ((hp.push (kdv_tup [v])).push (excO C hp.objs.size)).get? b = some o := fun b o e => Heap.get?_push_of_some _ (Heap.get?_push_of_some _ e)
  have hget : ((hp.push (kdv_tup [v])).push (excO C hp.objs.size)).get? (hp.objs.size + 1) = some (excO C hp.objs.size) := by heap_get
  have hnx : K.lookup (hp.objs.size + 1) = none := by
    cases e : K.lookup (hp.objs.size + 1) with
    | none => rfl
    | some o =>
      have z : hp.get? (hp.objs.size + 1) = some o := X _ _ e
      exact absurd (Nat.lt_of_succ_lt (Heap.lt_size z)) (Nat.lt_irrefl _)
  refine call_own F.excBase_Exception (fun X => excTail_contains X bm hbm) (X _ _ hC) (looks_findIn X T.iC) (fun self => bind_fn X self T.tC) (by rw [sizeLine_eq]; exact (by decide : 1 ≤ 16777216)) ?_
  refine err_init (s := ⟨(hp.push (kdv_tup [v])).push (excO C hp.objs.size), g, dr, tk, os⟩) T (X.keeps k) (hlim.keeps k) hget hnx ?_ fun h' tk' dx ⟨k', hx, dn, dne, hns⟩ => ?_
  · show A.depth + 1 < recursionLimit
    exact hroom
  · have old : ∀ b o, hp.get? b = some o → h'.get? b = some o := fun b o e => k' b o (Nat.ne_of_lt (Nat.lt_succ_of_lt (Heap.lt_size e))) (k b o e)
    have z : hp.objs.size + 1 + 1 ≤ dx := by
      first
        | (simpa only [Heap.size_push] using dn)
        | exact dn
        | (have q := dn; rw [Heap.size_push, Heap.size_push] at q; exact q)
    exact ⟨rfl, hq h' tk' (hp.objs.size + 1) dx ⟨old, Nat.le_succ _, ⟨_, _, hx, rfl, rfl, rfl, rfl⟩, Nat.le_trans (Nat.le_trans (Nat.le_succ _) (Nat.le_succ _)) z, dne, hns⟩⟩
end
end EvErr
end PySem
namespace L2
open PySem PySem.Spec PyProof.Rows PySem.EvErr
theorem relO_at {v : V} {v' : Value} (r : RelV v v') (f : Str) : RelO (List.lookup f [(("at" : Str), v)]) (if f = "at" then some v' else none) := by
  by_cases hw : f = "at"
  · subst hw
    rw [if_pos rfl]
    have q : List.lookup ("at" : Str) [(("at" : Str), v)] = some v := by simp [List.lookup]
    rw [q]
    exact r
  · rw [if_neg hw]
    have qw : (f == ("at" : Str)) = false := by simpa using hw
    have q2 : List.lookup f [(("at" : Str), v)] = none := by simp [List.lookup, qw]
    rw [q2]
    trivial
section
variable {X : Cx} {C fI : Addr} {nm : Str}
/-- E(e) -/
def tMkErr (C : Addr) (ta : TA) : St → Hp → XK → Prop := fun σ H Q => ta σ H fun vs H1 => ∃ v, vs = [v] ∧ ∀ d, H1 d = none → Q (.ref C) (some d) (upd H1 d (.xd [(("at" : Str), v)]))
theorem pmk_err {a : Expr} {ta : TA} {p pos : Pos} {k : Nat} (T : ErrTxt X.K X.mg nm C fI) (hr : Room k X.A) (ha : PA X [a] ta) (hg : Gl X nm) (hdb : (nm == ("__debug__" : Str)) = false)
    (he : starEach (a :: []) X.env = (false, eval a X.env) :: starEach [] X.env) (hpl : (backTo pos (starEach [] X.env)).any (·.1) = false) :
    PMk X (.Call (.Name nm p) [a] [] pos) (tMkErr C ta) := by
  intro pins s σ H Q I h
  refine wpAny_Call_Name_kw (ld_glob I hg T.gC ?_ hdb)
  refine PySem.W.callWith_K (h₀ := X.base) I.ok.mod.kin T.kC (thn (ha.run pos pins s σ H _ I h) fun us s1 hh => ?_) he hpl
  obtain ⟨vs, H1, I1, r1, v, ev, q1⟩ := hh
  subst ev
  refine ⟨I1.kIn, ?_⟩
  cases r1 with
  | cons rv rn =>
    rename_i v' us'
    cases rn
    show wpAny _ _ (call (.ref C) [v']) _ _ _
    have hlim := I1.nolimit
    obtain ⟨hp, g, dr, tk, os⟩ := s1
    refine wpAny_call (err_made T I1.kIn hlim (by have := hr.dp; omega) fun h' tk' e d M => ?_)
    show MkP X pins σ Q (.ref e) ⟨h', g, dr, tk', os⟩
    obtain ⟨oe, fv, hoe, hc, hd, hdat, h1⟩ := M.obj
    have hns := M.ns
    obtain ⟨G', g1, g2⟩ := restrict h' fun b => decide (b ≠ e)
    have gk : ∀ b, b ≠ e → G'.get? b = h'.get? b := fun b hb => g1 b (decide_eq_true hb)
    have ge : G'.get? e = none := g2 e (by simp)
    have old : ∀ b o, hp.get? b = some o → G'.get? b = some o := fun b o q => (gk b (Nat.ne_of_lt (Nat.lt_of_lt_of_le (Heap.lt_size q) M.new))).trans (M.keep b o q)
    have ob : ObjOk X.prog X.w (upd H1 d (.xd [(("at" : Str), v)])) G' d (.xd [(("at" : Str), v)]) :=
      ⟨_, hns.at (fun o q => (gk d M.dne).trans q), fun f => relO_at rv f⟩
    have J : Inv X pins σ (upd H1 d (.xd [(("at" : Str), v)])) ⟨G', g, dr, tk', os⟩ := I1.laid (t' := tk') old M.dbig ob
    refine ⟨e, oe, fv, ⟨G', g, dr, tk', os⟩, _, .ref C, some d, rfl, J, fun b o q => ?_, ge, hoe, ⟨hc, hd⟩, hdat, h1, ?_, rfl, I1.bare, raises_own T.exC T.tyC, q1 d (I1.hok.fresh M.dbig)⟩
    · by_cases hb : b = e
      · have q' : G'.get? b = some o := q
        rw [hb, ge] at q'; cases q'
      · exact (gk b hb).symm.trans q
    · rw [upd_ne (Ne.symm M.dne)]
      exact I1.hok.fresh M.new
/-- e.at, e the exception that the suite holds (at a; its class cls, its dict d) -/
def tAtErr (C : Addr) (a : Addr) (cls : Value) (d : Option Addr) (te : TE) : TE := fun σ H Q => te σ H fun x H1 => x = .ref a ∧ cls = .ref C ∧ ∃ (dd : Addr) (v : V), d = some dd ∧ H1 dd = some (.xd [(("at" : Str), v)]) ∧ Q v H1
theorem pe_atErr {a : Addr} {oe : Obj} {cls : Value} {d : Option Addr} {pn : List (Addr × Obj)} {e : Expr} {te : TE} {pos : Pos} (T : ErrTxt X.K X.mg nm C fI) (hz : Zc cls d oe) (hf : ∃ vs, oe.data = .fields vs) (he : PE (X.suite a ((a, oe) :: pn)) e te)
    (hb : attributeBase e "at" X.env (eval e X.env) = eval e X.env) :
    PE (X.suite a ((a, oe) :: pn)) (.Attribute e "at" pos) (tAtErr C a cls d te) := by
  refine ⟨fun pins s σ H Q I h => ?_⟩
  refine attr_of hb (thn (he.run pins s σ H _ I h) fun u s1 hh => ?_)
  obtain ⟨x, H1, I1, rx, ex, ec, dd, v, ed, ea, q⟩ := hh
  subst ex
  obtain rfl : u = Value.ref a := rx
  subst ec
  subst ed
  obtain ⟨ha, _⟩ := I1.pin (a, oe) (List.mem_append_left _ List.mem_cons_self)
  obtain ⟨vs, hd⟩ := hf
  have hx : ObjOk X.prog X.w H1 s1.heap dd (.xd [(("at" : Str), v)]) := I1.hok dd _ ea
  obtain ⟨mA, hns, hr⟩ := hx
  obtain ⟨od, ho, hl⟩ := lookIn_ns hns
  have l : List.lookup ("at" : Str) [(("at" : Str), v)] = some v := by simp [List.lookup]
  obtain ⟨u, hu, ru⟩ := RelO.some_of (v := v) (o := mA "at") (by rw [← l]; exact hr "at")
  have J : PySem.W.InstAt s1.heap a oe C (some od) := ⟨ha, hz.1, by unfold PySem.W.notCls; rw [hd] <;> rfl, by rw [hz.2]; exact ho⟩
  exact HandSPX.exc_get I1.kIn J T.ga T.gg T.exC (PySem.W.findObj_own T.hdC T.noN rfl (by rw [hl, hu])) (handed_of ru) ⟨v, H1, I1.tok _, ru, q⟩
end
end L2
end

section
set_option Elab.async false
set_option linter.all false
set_option maxRecDepth 100000
set_option maxHeartbeats 1000000
/-! EvY: raise, try. -/
namespace Ev
open PySem PySem.Spec L2 PyProof.Rows PySem.EvErr
section
variable {X : Cx} {xs : Exs} {W : WX} {cl : Cl} {n : Nat} {pos : Pos} {e : Expr}
theorem cs_rais {x : Nat} {nm : Str} {C fI : Addr} {ia : E} {p p2 : Pos} {k : Nat} (hc : X.calm = true) (T : ErrTxt X.K X.mg nm C fI) (hr : Room k X.A) (tk : Takes X W) (he : CE xs W cl X e ia) (hg : Gl X nm) (hdb : (nm == ("__debug__" : Str)) = false)
    (hs : starEach [e] X.env = [(false, eval e X.env)]) (hx : xs x = some (C, true)) : CS xs W n cl X (.Raise (some (.Call (.Name nm p) [e] [] p2)) none pos) (.rais x ia) := by
  refine psImp (ps_raise hc tk (pmk_err T hr (pa_cons he pa_nil hs) hg hdb hs (by rfl))) fun Dn σ H => ?_
  rintro ⟨G, ρ, F, Own, hn, st, h⟩
  simp only [evS] at h
  refine ⟨ρ, F, Own, st.e, (AfS.of st h).imp fun q _ h => ?_⟩
  intro v H1 s r
  refine ⟨v, rfl, fun d hd => ?_⟩
  split at h
  · rename_i hl
    have su := same_upd (o := .xd [(("at" : Str), v)]) hd
    have hk : q.1 ≠ .b := fun z => by
      obtain ⟨k, dd⟩ := q
      cases z
      obtain ⟨a, vs, ds, e1, _⟩ := r
      have e1 : dd = .lst ds := e1
      subst e1
      simp [lf] at hl
    have rv : RepV X.K H1 F q.2 v := Res.solid (k := q.1) hk st.ex r
    exact h (.ref C) (some d) σ _ (pin_same (st.same s) su) ⟨C, true, hx, rfl, fun _ => ⟨hl, d, v, rfl, upd_same, (rv.same su).free hl⟩⟩
  · exact h.elim
theorem cs_try {x i : Nat} {nm y : Str} {C fI : Addr} {ia : E} {rp np p2 p3 p4 pos' : Pos} (hs : X.stack = X.env :: X.outer) (hf : X.env.frame = some X.env.locals) (hN : X.N.Nodup) (hi : X.N[i]? = some y) (hln : X.env.kindOf y = some .local) (hyd : (y == ("__debug__" : Str)) = false) (hyc : (y == ("__classdict__" : Str)) = false)
    (hg : Gl X nm) (hdb : (nm == ("__debug__" : Str)) = false) (T : ErrTxt X.K X.mg nm C fI) (tk : Takes X W) (hx : xs x = some (C, true)) (hex : ∀ z Cz b, xs z = some (Cz, b) → PySem.W.exmOne X.K (.ref Cz) (.ref C) = some (decide (z = x)))
    (he : ∀ (W' : WX) (pn : List (Addr × Obj)) (xe : Value → Shared → Prop), Takes (X.tr pn xe) W' → PassesOwn (model X.prog X.w) X.A X.env xe → CE xs W' cl (X.tr pn xe) e ia) (hv : isVar ia = false) :
    CS xs W n cl X (.Try [.Return (some e) rp] [.ExceptHandler (some (.Name nm np)) (some y) [.Return (some (.Attribute (.Name y p2) "at" p3)) p4] pos'] [] [] pos) (.tryAt x i ia) := by
  refine psImp (ps_try_as (c := .ref C) (i := i) (ts := fun a cls d => tRet (tAtErr C a cls d (tVar i))) (tb := fun W' => tRet (SR xs X.K W' (evE cl ia))) (Wout := W) hs hf hN hi hln ⟨hg, hdb, .inl T.gC⟩ tk
    (fun W' pn xe tk' hp => pss_one (ps_ret (he W' pn xe tk' hp)))
    (fun a oe cls d pn hz hfd => pss_one (ps_ret (pe_atErr T hz hfd (pe_var hi (.inl hln) hyd hyc) rfl)))) fun Dn σ H => ?_
  rintro ⟨G, ρ, F, Own, hn, st, h⟩
  simp only [evS] at h
  by_cases hl : ρ.length ≤ i
  · rw [if_pos hl] at h; exact h.elim
  rw [if_neg hl] at h
  refine ⟨ρ, F, Own, st.e, ?_⟩
  revert h
  cases e1 : evE cl ia ρ with
  | stuck => exact fun h => h.elim
  | ok q =>
    obtain ⟨k, d⟩ := q
    intro h v H' s r
    cases k with
    | b => exact h.elim
    | v => exact h v σ H' F Own (st.same s) r
    | f =>
      obtain ⟨a, vs, ds, rfl, rfl, q, e1, r1⟩ := r
      exact h _ σ H' F Own (st.same s) ⟨a, vs, ds, rfl, rfl, fun z => st.old a z q, e1, r1⟩
  | exn z d =>
    intro h cls dd H' s ex
    obtain ⟨Cz, b, e2, rfl, e3⟩ := id ex
    refine ⟨decide (z = x), hex z Cz b e2, fun q a _ => ?_, fun q => ?_⟩
    · obtain rfl : z = x := of_decide_eq_true q
      rw [hx] at e2
      cases e2
      obtain ⟨hl2, dx, v, rfl, ed, rv⟩ := e3 rfl
      have h : AfS xs X.K W G Dn (if z = z then .rt .v d ρ else .exn z d) := h
      rw [if_pos rfl] at h
      have li : i < σ.length := by rw [← st.env.length]; omega
      exact ⟨.ref a, List.getElem?_set_self li, rfl, rfl, dx, v, rfl, ed, h v σ H' F Own (st.same s) (rv.free hl2)⟩
    · have h : AfS xs X.K W G Dn (if z = x then .rt .v d ρ else .exn z d) := h
      rw [if_neg (of_decide_eq_false q)] at h
      exact h (.ref Cz) dd σ H' (pin_same st s) ex
end
end Ev
end

section
set_option Elab.async false
set_option linter.all false
set_option maxRecDepth 100000
set_option maxHeartbeats 1000000
/-! EvC: from the program's expressions to the small language, and that it is sound. -/
namespace Ev
open PySem PySem.Spec L2 PyProof.Rows PySem.EvErr

/-- what is known around a stretch of code: its names, its scope, the defs (their number, how many lists they are handed, how many parameters), the constants, the errors -/
structure CEnv where
  N : List Str
  sc : Scope
  fns : List (Str × Nat × Nat × Nat)
  con : List (Str × D)
  errs : List (Str × Nat)
  top : Bool := true
def ixOf (x : Str) : List Str → Option Nat
  | [] => none
  | y :: r => if y = x then some 0 else match ixOf x r with | some i => some (i + 1) | none => none
theorem ixOf_get {x : Str} : ∀ {l : List Str} {i : Nat}, ixOf x l = some i → l[i]? = some x
  | [], _, h => by cases h
  | y :: r, i, h => by
    unfold ixOf at h
    split at h
    · rename_i e; cases h; simp [e]
    · cases e : ixOf x r with
      | none => rw [e] at h; cases h
      | some j => rw [e] at h; cases h; simpa using ixOf_get e
def visB (k : Option NameKind) : Bool := match k with | some .local => true | some .cell => true | some .free => true | _ => false
def locB (k : Option NameKind) : Bool := match k with | some .local => true | _ => false
def cellB (k : Option NameKind) : Bool := match k with | some .cell => true | _ => false
def globB (k : Option NameKind) : Bool := match k with | some .globalImplicit => true | _ => false
def okName (x : Str) : Bool := !(x == ("__debug__" : Str)) && !(x == ("__classdict__" : Str)) && !(x == ("__name__" : Str))
def CEnv.slot (c : CEnv) (x : Str) : Option Nat := if visB (c.sc.names.lookup x) && okName x then ixOf x c.N else none
def CEnv.lslot (c : CEnv) (x : Str) : Option Nat := if (locB (c.sc.names.lookup x) || (c.top && cellB (c.sc.names.lookup x))) && okName x then ixOf x c.N else none
def CEnv.glob (c : CEnv) (x : Str) : Bool := globB (c.sc.names.lookup x) && okName x
def CEnv.blk (c : CEnv) (scope : Scope) : CEnv := { c with sc := relS scope c.sc, top := false }

/-- the defs, constants, errors are as told -/
structure GT (xs : Exs) (cl : Cl) (k : Nat) (c : CEnv) (P : Program) (w : World) (K : PySem.W.Frag) (mg : Str → Option Value) (base : Heap) : Prop where
  fns : ∀ x j nio np, c.fns.lookup x = some (j, nio, np) → ∃ f fd ps, FnOk P w K mg base (L2.CX P w) k f fd ps (spD xs K cl j nio np) ∧ mg x = some (.ref f) ∧ PySem.W.keepIn K (.ref f) = true ∧ Binds K fd ps []
  con : ∀ x d, c.con.lookup x = some d → ∃ u v, mg x = some u ∧ RelV v u ∧ ∀ H F, RepV K H F d v
  errs : ∀ x y, c.errs.lookup x = some y → ∃ C fI, ErrTxt K mg x C fI ∧ xs y = some (C, true) ∧ ∀ z Cz b, xs z = some (Cz, b) → PySem.W.exmOne K (.ref Cz) (.ref C) = some (decide (z = y))
  blts : ∀ x ∈ (["len", "int", "str", "any", "tuple", "isinstance", "range", "bool", "list"] : List Str), mg x = none
structure GX (xs : Exs) (cl : Cl) (k : Nat) (c : CEnv) (X : Cx) (W : WX) : Prop where
  T : GT xs cl k c X.prog X.w X.K X.mg X.base
  N : X.N = c.N
  nd : X.N.Nodup
  sc : X.env.scope = c.sc
  fk : c.sc.kind = .function
  calm : X.calm = true
  tk : Takes X W
  room : Room k X.A
  fn : c.top = true → ∀ x, X.fn x = true

section
variable {X : Cx} {xs : Exs} {W : WX} {cl : Cl} {k : Nat} {c : CEnv}
abbrev Snd (xs : Exs) (W : WX) (cl : Cl) (X : Cx) (f : Expr → Option E) : Prop := ∀ e ir, f e = some ir → CE xs W cl X e ir ∧ CT xs W cl X e ir
theorem okName_of {x : Str} (h : okName x = true) : (x == ("__debug__" : Str)) = false ∧ (x == ("__classdict__" : Str)) = false ∧ x ≠ "__name__" := by
  unfold okName at h
  simp only [Bool.and_eq_true, Bool.not_eq_true'] at h
  exact ⟨h.1.1, h.1.2, by simpa using h.2⟩
theorem vis_of {sc : Scope} {x : Str} (h : visB (sc.names.lookup x) = true) : Vis sc x := by
  unfold visB at h
  split at h <;> first | exact .inl (by assumption) | exact .inr (.inl (by assumption)) | exact .inr (.inr (by assumption)) | cases h
theorem loc_of {sc : Scope} {x : Str} (h : locB (sc.names.lookup x) = true) : sc.names.lookup x = some .local := by
  unfold locB at h
  split at h <;> first | assumption | cases h
theorem GX.slot (g : GX xs cl k c X W) {x : Str} {i : Nat} (h : c.slot x = some i) : X.N[i]? = some x ∧ Vis X.env.scope x ∧ (x == ("__debug__" : Str)) = false ∧ (x == ("__classdict__" : Str)) = false := by
  unfold CEnv.slot at h
  split at h
  · rename_i e
    simp only [Bool.and_eq_true] at e
    obtain ⟨h1, h2, _⟩ := okName_of e.2
    exact ⟨by rw [g.N]; exact ixOf_get h, by rw [g.sc]; exact vis_of e.1, h1, h2⟩
  · cases h
theorem GX.lslot (g : GX xs cl k c X W) {x : Str} {i : Nat} (h : c.lslot x = some i) : X.N[i]? = some x ∧ (Loc X.env.scope x ∧ (X.fn x = true ∨ X.env.scope.names.lookup x = some .local)) ∧ (x == ("__debug__" : Str)) = false ∧ (x == ("__classdict__" : Str)) = false := by
  unfold CEnv.lslot at h
  split at h
  · rename_i e
    simp only [Bool.and_eq_true, Bool.or_eq_true] at e
    obtain ⟨h1, h2, _⟩ := okName_of e.2
    refine ⟨by rw [g.N]; exact ixOf_get h, ?_, h1, h2⟩
    rw [g.sc]
    rcases e.1 with q | ⟨q1, q2⟩
    · exact ⟨.inl (loc_of q), .inr (loc_of q)⟩
    · have : c.sc.names.lookup x = some .cell := by
        unfold cellB at q2
        split at q2 <;> first | assumption | cases q2
      exact ⟨.inr this, .inl (g.fn q1 x)⟩
  · cases h
theorem GX.glob (g : GX xs cl k c X W) {x : Str} (h : c.glob x = true) : Gl X x ∧ (x == ("__debug__" : Str)) = false ∧ x ≠ "__name__" := by
  unfold CEnv.glob at h
  simp only [Bool.and_eq_true] at h
  obtain ⟨h1, _, h2⟩ := okName_of h.2
  refine ⟨?_, h1, h2⟩
  show X.env.scope.names.lookup x = _
  rw [g.sc]
  have := h.1
  unfold globB at this
  split at this <;> first | assumption | cases this
/-- inside a comprehension -/
theorem GX.blk (g : GX xs cl k c X W) {scope : Scope} (hk : scope.kind = .function) (s : Shared) (H : Hp) (C : Addr) (cl' : List (Str × Addr)) (fp : List Addr) : GX xs cl k (c.blk scope) (X.blk s H scope (compEnvC scope cl' C X.env) fp) W0 where
  T := ⟨g.T.fns, g.T.con, g.T.errs, g.T.blts⟩
  N := g.N
  nd := g.nd
  sc := by show relS scope X.env.scope = _; rw [g.sc]; rfl
  fk := hk
  calm := g.calm
  tk := takes0
  room := g.room
  fn := fun h => by cases h

/-! ### names, constants -/
def compName (c : CEnv) (x : Str) : Option E := match c.slot x with | some i => some (.var i) | none => if c.glob x then (match c.con.lookup x with | some d => some (.cst d) | none => none) else none
def compCst : Const → Option E
  | .int i => some (.cst (.int i))
  | .bool b => some (.cst (.bl b))
  | .none => some (.cst .non)
  | .str s => if s.cps.toList.all (fun n => decide (n < 1114112)) then some (.cst (.str s.cps.toList)) else none
  | _ => none
theorem ce_con (g : GX xs cl k c X W) {x : Str} {d : D} {pos : Pos} (hg : c.glob x = true) (h : c.con.lookup x = some d) : CE xs W cl X (.Name x pos) (.cst d) := by
  obtain ⟨h1, h2, h3⟩ := g.glob hg
  obtain ⟨u, v, hm, r, rep⟩ := g.T.con x d h
  exact cstImp rep ⟨fun pins s σ H Q I q => ld_glob I h1 hm ⟨v, H, I, r, q⟩ h2⟩
theorem compName_ok (g : GX xs cl k c X W) {x : Str} {ir : E} {pos : Pos} (h : compName c x = some ir) : CE xs W cl X (.Name x pos) ir := by
  unfold compName at h
  split at h
  · rename_i i e
    cases h
    obtain ⟨h1, h2, h3, h4⟩ := g.slot e
    exact ce_var h1 h2 h3 h4
  · split at h
    · rename_i hg
      split at h
      · rename_i d e; cases h; exact ce_con g hg e
      · cases h
    · cases h
theorem compCst_ok {v : Const} {ir : E} {j : Nat} {pos : Pos} (h : compCst v = some ir) : CE xs W cl X (.Constant v j pos) ir := by
  unfold compCst at h
  split at h
  · cases h; exact ce_int
  · cases h; exact ce_bl
  · cases h; exact ce_non
  · split at h
    · rename_i s e
      cases h
      exact ce_str fun n hn => of_decide_eq_true (List.all_eq_true.mp e n hn)
    · cases h
  · cases h

/-! ### operators -/
def opB : Operator → Option Bop
  | .Add => some .add
  | .Sub => some .sub
  | .Mult => some .mul
  | .FloorDiv => some .fdiv
  | .Mod => some .mod
  | .Pow => some .pow
  | _ => none
def opC : CmpOp → Cop
  | .Eq => .eq
  | .NotEq => .ne
  | .Lt => .lt
  | .LtE => .le
  | .Gt => .gt
  | .GtE => .ge
  | .Is => .is
  | .IsNot => .isnot
  | .In => .isin
  | .NotIn => .notin
theorem opB_ok {op : Operator} {o : Bop} (h : opB op = some o) : OpR X (binaryOp op) (rBin X.K (binD o)) := by
  cases op <;> cases h
  · exact op_addE
  · exact op_subE
  · exact op_mulE
  · exact op_modE
  · exact op_powE
  · exact op_fdivE
theorem opC_ok (hu : X.A.units + 64 < cLine) (op : CmpOp) : OpR X (compareOp op) (rCmp X.K (opC op)) := by
  cases op
  · exact op_eqE hu
  · exact op_neE hu
  · exact op_ltE
  · exact op_leE
  · exact op_gtE
  · exact op_geE
  · exact op_isE
  · exact op_isnotE
  · exact op_inE
  · exact op_notinE
theorem GX.units (g : GX xs cl k c X W) : X.A.units + 64 < cLine := by
  have := g.room.un
  omega
def compCmp (f : Expr → Option E) (a : Expr) (ops : List CmpOp) (bs : List Expr) : Option E :=
  match ops, bs with
  | [op], [b] => if behindInMarks op b then none else match f a, f b with
      | some ia, some ib => some (.cmp (opC op) ia ib)
      | _, _ => none
  | [op, op'], [b, b'] => if lastMarks [op, op'] [b, b'] then none else match f a, f b, f b' with
      | some ia, some ib, some ic => some (.chn (opC op) (opC op') ia ib ic)
      | _, _, _ => none
  | _, _ => none
theorem compCmp_ok (hu : X.A.units + 64 < cLine) {f : Expr → Option E} (F : Snd xs W cl X f) {a : Expr} {ops : List CmpOp} {bs : List Expr} {ir : E} {pos : Pos} (h : compCmp f a ops bs = some ir) :
    CE xs W cl X (.Compare a ops bs pos) ir ∧ CT xs W cl X (.Compare a ops bs pos) ir := by
  unfold compCmp at h
  split at h
  · rename_i op b
    split at h
    · cases h
    · rename_i hm
      split at h
      · rename_i ia ib e1 e2
        cases h
        have hm := Bool.eq_false_iff.mpr hm
        exact ⟨ce_cmp (opC_ok hu op) (F _ _ e1).1 (F _ _ e2).1 hm, ct_cmp (opC_ok hu op) (F _ _ e1).1 (F _ _ e2).1 hm⟩
      · cases h
  · rename_i op op' b b'
    split at h
    · cases h
    · rename_i hm
      split at h
      · rename_i ia ib ic e1 e2 e3
        cases h
        have hm := Bool.eq_false_iff.mpr hm
        exact ⟨ce_chn (opC_ok hu op) (opC_ok hu op') (F _ _ e1).1 (F _ _ e2).1 (F _ _ e3).1 hm, ct_chn (opC_ok hu op) (opC_ok hu op') (F _ _ e1).1 (F _ _ e2).1 (F _ _ e3).1 hm⟩
      · cases h
  · cases h
def compUn (op : UnaryOp) (ia : E) : Option E :=
  match op with
  | .Not => some (.not ia)
  | .USub => some (.neg ia)
  | _ => none
theorem compUn_ok {op : UnaryOp} {a : Expr} {ia ir : E} {pos : Pos} (ha : CE xs W cl X a ia ∧ CT xs W cl X a ia) (h : compUn op ia = some ir) : CE xs W cl X (.UnaryOp op a pos) ir ∧ CT xs W cl X (.UnaryOp op a pos) ir := by
  unfold compUn at h
  split at h
  · cases h; exact ⟨ce_not ha.1, ct_not ha.2⟩
  · cases h; exact ⟨ce_neg ha.1, ct_any (ce_neg ha.1) fun _ => rfl⟩
  · cases h

/-! ### and, or -/
def compB (f : Expr → Option E) (mk : E → E → E) : List Expr → Option E
  | [] => none
  | [a] => f a
  | a :: b :: r => match f a, compB f mk (b :: r) with
      | some ia, some ib => some (mk ia ib)
      | _, _ => none
def mkB : BoolOp → E → E → E
  | .And => .and
  | .Or => .or
theorem compB_ok {f : Expr → Option E} (F : Snd xs W cl X f) {op : BoolOp} {pos : Pos} : ∀ {es : List Expr} {ir : E}, compB f (mkB op) es = some ir → CE xs W cl X (.BoolOp op es pos) ir ∧ CW xs W cl X (.BoolOp op es pos) ir
  | [], _, h => by cases h
  | [a], ir, h => by
    have := F a ir h
    refine ⟨ce_one this.1, ?_⟩
    cases op
    · exact cw_and1 this.2
    · exact cw_or1 this.2
  | a :: b :: r, ir, h => by
    simp only [compB] at h
    split at h
    · rename_i ia ib e1 e2
      cases h
      have h1 := F _ _ e1
      have h2 := compB_ok F (pos := pos) e2
      cases op
      · exact ⟨ce_and h1.1 h2.1, cw_and h1.2 h2.2⟩
      · exact ⟨ce_or h1.1 h2.1, cw_or h1.2 h2.2⟩
    · cases h

/-! ### a if c else b, as a test -/
theorem pt_ite {c a b : Expr} {tc ta tb : TT} {pos : Pos} (hc : PT X c tc) (ha : PT X a ta) (hb : PT X b tb) : PT X (.IfExp c a b pos) (fun σ H Q => tc σ H fun t H1 => if t = true then ta σ H1 Q else tb σ H1 Q) := by
  refine ⟨fun pins s σ H Q I h => ?_⟩
  have e : ∀ whole, PySem.isTrue (.IfExp c a b pos) X.env whole = (do if ← PySem.isTrue c X.env (eval c X.env) then PySem.isTrue a X.env (eval a X.env) else PySem.isTrue b X.env (eval b X.env)) := fun _ => by simp only [PySem.isTrue]
  rw [e]
  refine wpAny_bind (thn (hc.run pins s σ H _ I h) fun t s1 ⟨H1, I1, q1⟩ => ?_)
  cases t with
  | true => exact ha.run pins s1 σ H1 Q I1 q1
  | false => exact hb.run pins s1 σ H1 Q I1 q1
theorem ct_ite {cc a b : Expr} {ic ia ib : E} {pos : Pos} (hc : CT xs W cl X cc ic) (ha : CT xs W cl X a ia) (hb : CT xs W cl X b ib) : CT xs W cl X (.IfExp cc a b pos) (.ite ic ia ib) := by
  refine ptImp (pt_ite hc ha hb) fun σ H Q => ?_
  rintro ⟨ρ, F, Own, hs, h⟩
  simp only [truthIte] at h
  refine ⟨ρ, F, Own, hs, h.bind.imp fun t _ h => ?_⟩
  intro H1 s1
  cases t with
  | true => exact ⟨ρ, F, Own, hs.same s1, (After.move s1 h).imp fun b _ k H' s => k H' (s1.trans s)⟩
  | false => exact ⟨ρ, F, Own, hs.same s1, (After.move s1 h).imp fun b _ k H' s => k H' (s1.trans s)⟩

/-! ### argument lists -/
def isSt : Expr → Bool
  | .Starred .. => true
  | _ => false
def plainB (es : List Expr) : Bool := es.all fun e => !isSt e
def mapA (f : Expr → Option E) : List Expr → Option Es
  | [] => some .nil
  | e :: r => match e with
      | .Starred e' _ => (match f e', mapA f r with | some i, some j => some (.cons true i j) | _, _ => none)
      | e => (match f e, mapA f r with | some i, some j => some (.cons false i j) | _, _ => none)
theorem star_plain {e : Expr} {r : List Expr} {env : Env} (h : isSt e = false) : starEach (e :: r) env = (false, eval e env) :: starEach r env := by
  cases e <;> first | rfl | cases h
theorem mapA_ok {f : Expr → Option E} (F : Snd xs W cl X f) : ∀ {es : List Expr} {ies : Es}, mapA f es = some ies → PA X es (SRs xs X.K W (evEs cl ies))
  | [], _, h => by cases h; exact ca_nil
  | e :: r, ies, h => by
    by_cases hs : isSt e = true
    · cases e <;> try (cases hs; done)
      simp only [mapA] at h
      split at h
      · rename_i i j e1 e2
        cases h
        exact ca_star (F _ _ e1).1 (mapA_ok F e2) rfl
      · cases h
    · have hs : isSt e = false := Bool.eq_false_iff.mpr hs
      have h2 : (match f e, mapA f r with | some i, some j => some (Es.cons false i j) | _, _ => none) = some ies := by
        cases e <;> first | exact h | cases hs
      split at h2
      · rename_i i j e1 e2
        cases h2
        exact ca_cons (F _ _ e1).1 (mapA_ok F e2) (star_plain hs)
      · cases h2
theorem plain_cons {e : Expr} {r : List Expr} (h : plainB (e :: r) = true) : isSt e = false ∧ plainB r = true := by
  simp only [plainB, List.all_cons, Bool.and_eq_true, Bool.not_eq_true'] at h
  exact h
theorem plain_any {env : Env} {pos : Pos} : ∀ {es : List Expr}, plainB es = true → (backTo pos (starEach es env)).any (·.1) = false
  | [], _ => rfl
  | e :: r, h => by
    obtain ⟨h1, h2⟩ := plain_cons h
    rw [star_plain h1]
    have := plain_any (env := env) (pos := pos) h2
    unfold backTo at this ⊢
    simpa using this
theorem plain_all {env : Env} {pos : Pos} : ∀ {es : List Expr}, plainB es = true → (backTo pos (starEach es env)).all (fun x => !x.1) = true
  | [], _ => rfl
  | e :: r, h => by
    obtain ⟨h1, h2⟩ := plain_cons h
    rw [star_plain h1]
    have := plain_all (env := env) (pos := pos) h2
    unfold backTo at this ⊢
    simpa using this
theorem evEs_len {f : Expr → Option E} : ∀ {es : List Expr} {ies : Es}, mapA f es = some ies → plainB es = true → ∀ ρ ps, evEs cl ies ρ = .ok ps → ps.length = es.length
  | [], _, h, _, ρ, ps, e => by
    cases h
    simp only [evEs] at e
    cases e; rfl
  | a :: r, ies, h, hp, ρ, ps, e => by
    obtain ⟨h1, h2⟩ := plain_cons hp
    have h3 : (match f a, mapA f r with | some i, some j => some (Es.cons false i j) | _, _ => none) = some ies := by
      cases a <;> first | exact h | cases h1
    split at h3
    · rename_i i j e1 e2
      cases h3
      simp only [evEs] at e
      cases ea : evE cl i ρ with
      | ok p =>
        rw [ea] at e
        cases eb : evEs cl j ρ with
        | ok qs =>
          have := evEs_len e2 h2 ρ qs eb
          simp only [R.bind, starL, eb] at e
          cases e
          simp [this]
        | exn x d => simp only [R.bind, starL, eb] at e; cases e
        | stuck => simp only [R.bind, starL, eb] at e; cases e
      | exn x d => rw [ea] at e; cases e
      | stuck => rw [ea] at e; cases e
    · cases h3

/-! ### subscripts -/
def isNope : E → Bool
  | .nope => true
  | _ => false
def optC (f : Expr → Option E) : Option Expr → Option E
  | none => some .nope
  | some e => match f e with | some i => if isNope i then none else some i | none => none
theorem optC_ok {f : Expr → Option E} (F : Snd xs W cl X f) {o : Option Expr} {i : E} (h : optC f o = some i) : PO X o (SO xs X.K W cl i) := by
  cases o with
  | none => cases h; exact co_none
  | some e =>
    simp only [optC] at h
    split at h
    · rename_i j e1
      split at h
      · cases h
      · rename_i hn
        cases h
        exact co_some (F _ _ e1).1 fun z => hn (by rw [z]; rfl)
    · cases h
def isSlc : Expr → Bool
  | .Slice .. => true
  | _ => false
def compSub (f : Expr → Option E) (a : Expr) (s : Expr) : Option E :=
  match s with
  | .Slice lo hi none _ => (match f a, optC f lo, optC f hi with | some ia, some il, some ih => some (.slc ia il ih) | _, _, _ => none)
  | b => if isSlc b then none else (match f a, f b with | some ia, some ib => some (.idx ia ib) | _, _ => none)
theorem compSub_ok {f : Expr → Option E} (F : Snd xs W cl X f) {a s : Expr} {ir : E} {pos : Pos} (h : compSub f a s = some ir) : CE xs W cl X (.Subscript a s pos) ir := by
  unfold compSub at h
  split at h
  · split at h
    · rename_i ia il ih e1 e2 e3
      cases h
      exact ce_slc (F _ _ e1).1 (optC_ok F e2) (optC_ok F e3)
    · cases h
  · split at h
    · cases h
    · rename_i hs
      split at h
      · rename_i ia ib e1 e2
        cases h
        refine ce_idx (F _ _ e1).1 (F _ _ e2).1 ?_
        intro o i
        cases s <;> first | rfl | exact absurd rfl hs
      · cases h
end
end Ev
end

section
set_option Elab.async false
set_option linter.all false
set_option maxRecDepth 100000
set_option maxHeartbeats 1000000
/-! EvD: calls, methods, comprehensions; the whole of the expressions. -/
namespace Ev
open PySem PySem.Spec L2 PyProof.Rows PySem.EvErr
section
variable {X : Cx} {xs : Exs} {W : WX} {cl : Cl} {k : Nat} {c : CEnv}

/-! ### calls -/
def bltN (x : Str) : Option Blt := if x = "len" then some .len else if x = "int" then some .int1 else if x = "str" then some .str1 else if x = "any" then some .any1 else if x = "tuple" then some .tuple1 else none
def tyOf (x : Str) : Option Ty := if x = "int" then some .tint else if x = "str" then some .tstr else if x = "bool" then some .tbool else if x = "list" then some .tlist else if x = "tuple" then some .ttuple else none
theorem blt_len : bootBuiltins "len" = some (.builtin "len") := by decide +kernel
theorem blt_any : bootBuiltins "any" = some (.builtin "any") := by decide +kernel
theorem blt_isi : bootBuiltins "isinstance" = some (.builtin "isinstance") := by decide +kernel
theorem blt_int : bootBuiltins "int" = some (.type "int") := by decide +kernel
theorem blt_str : bootBuiltins "str" = some (.type "str") := by decide +kernel
theorem blt_bool : bootBuiltins "bool" = some (.type "bool") := by decide +kernel
theorem blt_list : bootBuiltins "list" = some (.type "list") := by decide +kernel
theorem blt_tuple : bootBuiltins "tuple" = some (.type "tuple") := by decide +kernel
theorem bltN_ok (g : GX xs cl k c X W) {x : Str} {o : Blt} {e : Expr} {es : List Expr} {ies : Es} {p pos : Pos} (hg : c.glob x = true) (h : bltN x = some o) (ha : PA X (e :: es) (SRs xs X.K W (evEs cl ies)))
    (he : starEach (e :: es) X.env = (false, eval e X.env) :: starEach es X.env) (hpl : (backTo pos (starEach es X.env)).any (·.1) = false) : CE xs W cl X (.Call (.Name x p) (e :: es) [] pos) (.blt o ies) := by
  obtain ⟨h1, h2, h3⟩ := g.glob hg
  unfold bltN at h
  split at h
  · rename_i q; subst q; cases h
    exact ce_bltB bl_len h1 (g.T.blts _ (by simp)) blt_len ha h3 h2 he hpl
  split at h
  · rename_i q; subst q; cases h
    exact ce_bltT bl_int1 h1 (g.T.blts _ (by simp)) blt_int ha h3 h2 he hpl
  split at h
  · rename_i q; subst q; cases h
    exact ce_bltT bl_str1 h1 (g.T.blts _ (by simp)) blt_str ha h3 h2 he hpl
  split at h
  · rename_i q; subst q; cases h
    exact ce_bltB (bl_any1 g.calm) h1 (g.T.blts _ (by simp)) blt_any ha h3 h2 he hpl
  split at h
  · rename_i q; subst q; cases h
    exact ce_bltT bl_tuple1 h1 (g.T.blts _ (by simp)) blt_tuple ha h3 h2 he hpl
  · cases h
theorem tyOf_ok (g : GX xs cl k c X W) {x : Str} {t : Ty} (h : tyOf x = some t) : X.mg x = none ∧ bootBuiltins x = some (.type (tN t)) := by
  unfold tyOf at h
  split at h
  · rename_i q; subst q; cases h; exact ⟨g.T.blts _ (by simp), blt_int⟩
  split at h
  · rename_i q; subst q; cases h; exact ⟨g.T.blts _ (by simp), blt_str⟩
  split at h
  · rename_i q; subst q; cases h; exact ⟨g.T.blts _ (by simp), blt_bool⟩
  split at h
  · rename_i q; subst q; cases h; exact ⟨g.T.blts _ (by simp), blt_list⟩
  split at h
  · rename_i q; subst q; cases h; exact ⟨g.T.blts _ (by simp), blt_tuple⟩
  · cases h
def compIsi (f : Expr → Option E) (c : CEnv) (es : List Expr) : Option E :=
  match es with
  | [a, .Name y _] => if isSt a || !c.glob y then none else (match f a, tyOf y with | some ia, some t => some (.isi ia [t]) | _, _ => none)
  | [a, .Tuple [.Name y _, .Name z _] _ _] => if isSt a || !c.glob y || !c.glob z then none else (match f a, tyOf y, tyOf z with | some ia, some t, some u => some (.isi ia [t, u]) | _, _, _ => none)
  | _ => none
theorem noSt {a : Expr} (h : isSt a = false) : ∀ e p, a ≠ .Starred e p := fun e p z => by subst z; cases h
theorem compIsi_ok (g : GX xs cl k c X W) {f : Expr → Option E} (F : Snd xs W cl X f) {es : List Expr} {ir : E} {p pos : Pos} (hg : c.glob "isinstance" = true) (h : compIsi f c es = some ir) : CE xs W cl X (.Call (.Name "isinstance" p) es [] pos) ir := by
  obtain ⟨h1, h2, h3⟩ := g.glob hg
  unfold compIsi at h
  split at h
  · split at h
    · cases h
    · rename_i hb
      simp only [Bool.or_eq_true, Bool.not_eq_true', not_or, Bool.not_eq_true, Bool.not_eq_false] at hb
      split at h
      · rename_i ia t e1 e2
        cases h
        obtain ⟨q1, q2, q3⟩ := g.glob hb.2
        obtain ⟨m1, m2⟩ := tyOf_ok g e2
        exact ce_isi1 h1 (g.T.blts _ (by simp)) blt_isi q1 m1 m2 h3 h2 q3 q2 (F _ _ e1).1 (noSt hb.1)
      · cases h
  · split at h
    · cases h
    · rename_i hb
      simp only [Bool.or_eq_true, Bool.not_eq_true', not_or, Bool.not_eq_true, Bool.not_eq_false] at hb
      split at h
      · rename_i ia t u e1 e2 e3
        cases h
        obtain ⟨q1, q2, q3⟩ := g.glob hb.1.2
        obtain ⟨m1, m2⟩ := tyOf_ok g e2
        obtain ⟨r1, r2, r3⟩ := g.glob hb.2
        obtain ⟨n1, n2⟩ := tyOf_ok g e3
        exact ce_isi2 h1 (g.T.blts _ (by simp)) blt_isi q1 m1 m2 r1 n1 n2 h3 h2 q3 q2 r3 r2 (F _ _ e1).1 (noSt hb.1.1)
      · cases h
  · cases h
def compFn (f : Expr → Option E) (c : CEnv) (x : Str) (es : List Expr) : Option E :=
  if x = "isinstance" then compIsi f c es
  else if !plainB es || es.isEmpty then none
  else match mapA f es with
    | none => none
    | some ies => match bltN x with
        | some o => some (.blt o ies)
        | none => match c.fns.lookup x with
            | some (j, nio, np) => if nio = 0 ∧ es.length = np then some (.call j ies) else none
            | none => none
theorem compFn_ok (g : GX xs cl k c X W) {f : Expr → Option E} (F : Snd xs W cl X f) {x : Str} {es : List Expr} {ir : E} {p pos : Pos} (hg : c.glob x = true) (h : compFn f c x es = some ir) : CE xs W cl X (.Call (.Name x p) es [] pos) ir := by
  unfold compFn at h
  split at h
  · rename_i q; subst q; exact compIsi_ok g F hg h
  split at h
  · cases h
  rename_i hb
  simp only [Bool.or_eq_true, Bool.not_eq_true', not_or, Bool.not_eq_true, Bool.not_eq_false] at hb
  cases es with
  | nil => cases hb.2
  | cons e es =>
  obtain ⟨hp1, hp2⟩ := plain_cons hb.1
  split at h
  · cases h
  · rename_i ies e1
    have ha := mapA_ok F e1
    split at h
    · rename_i o e2
      cases h
      exact bltN_ok g hg e2 ha (star_plain hp1) (plain_any hp2)
    · split at h
      · rename_i j nio np e3
        split at h
        · rename_i hh
          cases h
          obtain ⟨rfl, hl⟩ := hh
          obtain ⟨h1, h2, h3⟩ := g.glob hg
          obtain ⟨fa, fd, ps, q1, q2, q3, q4⟩ := g.T.fns _ _ _ _ e3
          exact ce_call (cx := L2.CX X.prog X.w) q1 g.room g.tk h1 q2 q3 q4 ha h2 (star_plain hp1) (plain_any hp2) fun ρ qs e => by rw [evEs_len e1 hb.1 ρ qs e, hl]
        · cases h
      · cases h

/-! ### methods of texts -/
def mthN (x : Str) : Option Mth := if x = "split" then some .split else if x = "join" then some .join else if x = "find" then some .find else none
def okBase : Expr → Bool
  | .Call _ [] _ _ => false
  | _ => true
theorem okBase_ok {o : Expr} {name : Str} {env : Env} {w : Sem Value} (h : okBase o = true) : attributeBase o name env w = w := by
  unfold attributeBase
  split
  · cases h
  · rfl
def compMth (f : Expr → Option E) (o : Expr) (name : Str) (apos : Pos) (es : List Expr) (pos : Pos) : Option E :=
  if !plainB es || es.isEmpty || !okBase o || !(apos.endLine == pos.line) || !decide (es.length < 20) then none
  else match mthN name, f o, mapA f es with
    | some m, some io, some ies => some (.mth m io ies)
    | _, _, _ => none
theorem mth_ok {x : Str} {m : Mth} (h : mthN x = some m) : m ≠ .replace ∧ ∃ id, PySem.Slot "str" x id ∧ typeOf (.builtin id) = pure (.type "method_descriptor") ∧ MtR X id (rMt X.K m) := by
  unfold mthN at h
  split at h
  · rename_i q; subst q; cases h; exact ⟨nofun, _, PySem.F.slot_str_split, rfl, mt_splitE⟩
  split at h
  · rename_i q; subst q; cases h; exact ⟨nofun, _, PySem.F.slot_str_join, rfl, mt_joinE⟩
  split at h
  · rename_i q; subst q; cases h; exact ⟨nofun, _, PySem.F.slot_str_find, rfl, mt_findE⟩
  · cases h
theorem few_ok {env : Env} {cpos : Pos} {es : List Expr} (hp : plainB es = true) (hl : es.length < 20) : ((backTo cpos (starEach es env)).all (fun x => !x.1) && (backToKw cpos (keywordEach [] env)).all (fun x => x.1.isSome) && decide (es.length + ([] : List Keyword).length + (if ([] : List Keyword).isEmpty then 0 else 1) < 30)) = true := by
  rw [plain_all hp]
  have : (backToKw cpos (keywordEach [] env)).all (fun x => x.1.isSome) = true := rfl
  rw [this]
  simp only [List.length_nil, List.isEmpty_nil, if_true, Bool.and_self, Bool.true_and, decide_eq_true_eq]
  omega
theorem compMth_ok {f : Expr → Option E} (F : Snd xs W cl X f) {o : Expr} {name : Str} {apos pos : Pos} {es : List Expr} {ir : E} (h : compMth f o name apos es pos = some ir) : CE xs W cl X (.Call (.Attribute o name apos) es [] pos) ir := by
  unfold compMth at h
  split at h
  · cases h
  rename_i hb
  simp only [Bool.or_eq_true, Bool.not_eq_true', not_or, Bool.not_eq_true, Bool.not_eq_false, decide_eq_true_eq] at hb
  obtain ⟨⟨⟨⟨hp, hne⟩, hbase⟩, hline⟩, hlen⟩ := hb
  have hlen : es.length < 20 := by
    have := hlen
    simpa using this
  cases es with
  | nil => cases hne
  | cons e es =>
  obtain ⟨hp1, hp2⟩ := plain_cons hp
  split at h
  · rename_i m io ies e1 e2 e3
    cases h
    obtain ⟨m1, id, m2, m3, m4⟩ := mth_ok (X := X) e1
    exact ce_mth m1 m2 m3 m4 (F _ _ e2).1 (mapA_ok F e3) (okBase_ok hbase) (few_ok hp hlen) hline (star_plain hp1) (plain_any hp2)
  · cases h
def compCall (f : Expr → Option E) (c : CEnv) (fn : Expr) (es : List Expr) (kw : List Keyword) (pos : Pos) : Option E :=
  match kw with
  | _ :: _ => none
  | [] => match fn with
      | .Name x _ => if c.glob x then compFn f c x es else none
      | .Attribute o name apos => compMth f o name apos es pos
      | _ => none
theorem compCall_ok (g : GX xs cl k c X W) {f : Expr → Option E} (F : Snd xs W cl X f) {fn : Expr} {es : List Expr} {kw : List Keyword} {pos : Pos} {ir : E} (h : compCall f c fn es kw pos = some ir) : CE xs W cl X (.Call fn es kw pos) ir := by
  unfold compCall at h
  split at h
  · cases h
  · split at h
    · split at h
      · rename_i hg; exact compFn_ok g F hg h
      · cases h
    · exact compMth_ok F h
    · cases h

/-! ### what is walked -/
def isSetE : Expr → Bool
  | .Set .. => true
  | _ => false
theorem notSet {e : Expr} {env : Env} (h : isSetE e = false) : ∀ x, foldedSetIterable e env x = pure x := fun x => by
  unfold foldedSetIterable
  split
  · cases h
  · rfl
def compSeq (f : Expr → Option E) (e : Expr) : Option (Itk × Es) := match f e with | some ie => some (.seq, .cons false ie .nil) | none => none
def compRng (f : Expr → Option E) (es : List Expr) : Option (Itk × Es) :=
  match es with
  | [a] => if isSt a then none else (match mapA f [a] with | some ies => some (.rng1, ies) | none => none)
  | [a, b] => if isSt a || isSt b then none else (match mapA f [a, b] with | some ies => some (.rng2, ies) | none => none)
  | _ => none
def compIt (f : Expr → Option E) (c : CEnv) (e : Expr) : Option (Itk × Es) :=
  match e with
  | .Call (.Name x _) es [] _ => if x = "range" then (if c.glob x then compRng f es else none) else compSeq f e
  | e => compSeq f e
theorem compSeq_ok {f : Expr → Option E} (F : Snd xs W cl X f) {tg e : Expr} {k : Itk} {ies : Es} (h : compSeq f e = some (k, ies)) : PI X tg e (SI xs X.K W (evEs cl ies) k) := by
  unfold compSeq at h
  split at h
  · rename_i ie e1; cases h; exact ci_seq (F _ _ e1).1
  · cases h
theorem compIt_ok (g : GX xs cl k c X W) {f : Expr → Option E} (F : Snd xs W cl X f) {tg e : Expr} {k : Itk} {ies : Es} (h : compIt f c e = some (k, ies)) : PI X tg e (SI xs X.K W (evEs cl ies) k) := by
  unfold compIt at h
  split at h
  · rename_i x p es pos
    split at h
    · rename_i q
      subst q
      split at h
      · rename_i hg
        obtain ⟨h1, h2, h3⟩ := g.glob hg
        unfold compRng at h
        split at h
        · rename_i a
          split at h
          · cases h
          · rename_i hs
            have hs := Bool.eq_false_iff.mpr hs
            split at h
            · rename_i ies' e1
              cases h
              exact ci_rng1 h1 (g.T.blts _ (by simp)) (mapA_ok F e1) (star_plain hs)
            · cases h
        · rename_i a b
          split at h
          · cases h
          · rename_i hs
            simp only [Bool.or_eq_true, not_or, Bool.not_eq_true] at hs
            split at h
            · rename_i ies' e1
              cases h
              exact ci_rng2 h1 (g.T.blts _ (by simp)) (mapA_ok F e1) (by rw [star_plain hs.1, star_plain hs.2]; rfl) (star_plain hs.2)
            · cases h
        · cases h
      · cases h
    · exact compSeq_ok F h
  · exact compSeq_ok F h

/-! ### targets -/
def compNames (c : CEnv) : List Expr → Option (List Nat)
  | [] => some []
  | .Name x _ :: r => (match c.lslot x, compNames c r with | some i, some is => some (i :: is) | _, _ => none)
  | _ :: _ => none
def compTg (c : CEnv) : Expr → Option Tg
  | .Name x _ => (match c.lslot x with | some i => some (.one i) | none => none)
  | .Tuple es _ _ => (match compNames c es with | some is => some (.tup is) | none => none)
  | _ => none
theorem compNames_ok (g : GX xs cl k c X W) : ∀ {es : List Expr} {is : List Nat}, compNames c es = some is → PGs X es (tgAll is) ∧ (assignEach es X.env).length = is.length ∧ (assignEach es X.env).findIdx? (·.1) = none
  | [], is, h => by cases h; exact ⟨pgs_nil, rfl, rfl⟩
  | e :: r, is, h => by
    cases e <;> try (cases h; done)
    simp only [compNames] at h
    split at h
    · rename_i i is' e1 e2
      cases h
      obtain ⟨h1, h2, h3, h4⟩ := g.lslot e1
      obtain ⟨p1, p2, p3⟩ := compNames_ok g e2
      refine ⟨pgs_cons (pg_name g.nd h1 h2.1 h2.2) p1 rfl, ?_, ?_⟩
      · show (_ :: assignEach r X.env).length = _
        simp [p2]
      · show (_ :: assignEach r X.env).findIdx? (·.1) = none
        rw [List.findIdx?_cons]
        simp [p3]
    · cases h
theorem compTg_ok (g : GX xs cl k c X W) {e : Expr} {tg : Tg} (h : compTg c e = some tg) : PG X e (tgOf X.K tg) := by
  unfold compTg at h
  split at h
  · split at h
    · rename_i i e1
      cases h
      obtain ⟨h1, h2, h3, h4⟩ := g.lslot e1
      exact pg_name g.nd h1 h2.1 h2.2
    · cases h
  · split at h
    · rename_i is e1
      cases h
      obtain ⟨p1, p2, p3⟩ := compNames_ok g e1
      exact pg_tup g.calm p1 p2 p3
    · cases h
  · cases h

/-! ### comprehensions -/
def ownOf (c : CEnv) (scope : Scope) : List (Str × Nat) := scope.names.filterMap fun y => match y.2 with
  | .local => (match ixOf y.1 c.N with | some i => some (y.1, i) | none => none)
  | .cell => (match ixOf y.1 c.N with | some i => some (y.1, i) | none => none)
  | _ => none
def compIfs (f : Expr → Option E) : List Expr → Option E
  | [] => some (.cst (.bl true))
  | [t] => f t
  | _ => none
def fkB (s : Scope) : Bool := match s.kind with | .function => true | _ => false
def compLc (f f' : Expr → Option E) (c : CEnv) (scope : Scope) (elt : Expr) (gens : List Comprehension) : Option E :=
  match gens with
  | [⟨tg, it, ifs, asy⟩] =>
      if asy = 0 ∧ blkC c.N c.sc scope (ownOf c scope) = true ∧ isSetE it = false ∧ fkB scope = true then
        (match compTg (c.blk scope) tg, compIt f c it, compIfs f' ifs, f' elt with
        | some tg', some (k, ies), some ic, some ie => if tgIn tg' ((ownOf c scope).map (·.2)) then some (.cmpr ((ownOf c scope).map (·.2)) tg' k ies ic ie) else none
        | _, _, _, _ => none)
      else none
  | _ => none
theorem pts_imp {ifs : List Expr} {t t' : TT} (h : PTs X ifs t) (f : ∀ σ H Q, t' σ H Q → t σ H Q) : PTs X ifs t' := ⟨fun pins s σ H Q I q => h.run pins s σ H Q I (f _ _ _ q)⟩
theorem compIfs_ok {f : Expr → Option E} (F : Snd xs W cl X f) {ifs : List Expr} {ic : E} (h : compIfs f ifs = some ic) : PTs X ifs (ST xs X.K W fun ρ => truthR (evE cl ic ρ)) := by
  unfold compIfs at h
  split at h
  · cases h
    refine pts_imp pts_nil fun σ H Q => ?_
    rintro ⟨ρ, F, Own, hs, h⟩
    exact h H (Same.refl H)
  · exact pts_one (F _ _ h).2
  · cases h
/-- what a comprehension wants -/
theorem compLc_parts (g : GX xs cl k c X W) {scope : Scope} {f f' : Expr → Option E} (F : Snd xs W cl X f) (F' : ∀ (X' : Cx) (W' : WX), X'.K = X.K → GX xs cl k (c.blk scope) X' W' → Snd xs W' cl X' f') {elt : Expr} {gens : List Comprehension} {ir : E} (h : compLc f f' c scope elt gens = some ir) :
    ∃ tgE it ifs tg' kk ies ic ie, gens = [⟨tgE, it, ifs, 0⟩] ∧ ir = .cmpr ((ownOf c scope).map (·.2)) tg' kk ies ic ie ∧ BlkOk X.N X.env.scope scope (ownOf c scope) ∧ PI X tgE it (SI xs X.K W (evEs cl ies) kk) ∧ BlkE xs cl X scope tgE tg' ifs ic elt ie ∧
      tgIn tg' ((ownOf c scope).map (·.2)) = true ∧ ∀ x, foldedSetIterable it X.env x = pure x := by
  unfold compLc at h
  split at h
  · rename_i tgE it ifs asy
    split at h
    · rename_i hh
      obtain ⟨rfl, hb, hs, hk⟩ := hh
      split at h
      · rename_i tg' kk ies ic ie e1 e2 e3 e4
        split at h
        · rename_i hin
          cases h
          have hk' : scope.kind = .function := by
            unfold fkB at hk
            split at hk
            · assumption
            · cases hk
          have gb := fun s H C cl' fp => g.blk hk' s H C cl' fp
          refine ⟨tgE, it, ifs, tg', kk, ies, ic, ie, rfl, rfl, ?_, compIt_ok g F e2, ⟨fun s H C cl' fp => compTg_ok (gb s H C cl' fp) e1, fun s H C cl' fp => compIfs_ok (F' (X.blk s H scope (compEnvC scope cl' C X.env) fp) W0 rfl (gb s H C cl' fp)) e3, fun s H C cl' fp => (F' (X.blk s H scope (compEnvC scope cl' C X.env) fp) W0 rfl (gb s H C cl' fp) _ _ e4).1⟩, hin, notSet hs⟩
          rw [g.N, g.sc]
          exact blkOk_by hb
        · cases h
      · cases h
    · cases h
  · cases h

/-! ### the whole -/
def comp : Nat → CEnv → Expr → Option E
  | 0, _, _ => none
  | _ + 1, c, .Name x _ => compName c x
  | _ + 1, _, .Constant v _ _ => compCst v
  | m + 1, c, .BinOp a op b _ => (match opB op, comp m c a, comp m c b with | some o, some ia, some ib => some (.bin o ia ib) | _, _, _ => none)
  | m + 1, c, .UnaryOp op a _ => (match comp m c a with | some ia => compUn op ia | none => none)
  | m + 1, c, .Compare a ops bs _ => compCmp (comp m c) a ops bs
  | m + 1, c, .BoolOp op es _ => compB (comp m c) (mkB op) es
  | m + 1, c, .IfExp t a b _ => (match comp m c t, comp m c a, comp m c b with | some it, some ia, some ib => some (.ite it ia ib) | _, _, _ => none)
  | m + 1, c, .Tuple es _ _ => (match mapA (comp m c) es with | some ies => some (.tup ies) | none => none)
  | m + 1, c, .List es _ => (match mapA (comp m c) es with | some ies => some (.lst ies) | none => none)
  | m + 1, c, .Subscript a s _ => compSub (comp m c) a s
  | m + 1, c, .Call f es kw pos => compCall (comp m c) c f es kw pos
  | m + 1, c, .ListComp elt gens scope _ => compLc (comp m c) (comp m (c.blk scope)) c scope elt gens
  | _ + 1, _, _ => none
theorem comp_ok : ∀ (m : Nat) (c : CEnv) (X : Cx) (W : WX), GX xs cl k c X W → Snd xs W cl X (comp m c)
  | 0, _, _, _, _, _, _, h => by cases h
  | m + 1, c, X, W, g, e, ir, h => by
    have F := comp_ok m c X W g
    cases e with
    | Name x p => have := compName_ok g (pos := p) h; exact ⟨this, ct_any this fun _ => rfl⟩
    | Constant v j p => have := compCst_ok (X := X) (xs := xs) (W := W) (cl := cl) (j := j) (pos := p) h; exact ⟨this, ct_any this fun _ => rfl⟩
    | BinOp a op b p =>
      simp only [comp] at h
      split at h
      · rename_i o ia ib e1 e2 e3
        cases h
        have := ce_op (pos := p) (opB_ok e1) (F _ _ e2).1 (F _ _ e3).1
        exact ⟨this, ct_any this fun _ => rfl⟩
      · cases h
    | UnaryOp op a p =>
      simp only [comp] at h
      split at h
      · rename_i ia e1; exact compUn_ok (F _ _ e1) h
      · cases h
    | Compare a ops bs p => exact compCmp_ok g.units F h
    | BoolOp op es p =>
      have := compB_ok F (pos := p) h
      exact ⟨this.1, this.2.pt⟩
    | IfExp t a b p =>
      simp only [comp] at h
      split at h
      · rename_i it ia ib e1 e2 e3
        cases h
        exact ⟨ce_ite (F _ _ e1).2 (F _ _ e2).1 (F _ _ e3).1, ct_ite (F _ _ e1).2 (F _ _ e2).2 (F _ _ e3).2⟩
      · cases h
    | Tuple es j p =>
      simp only [comp] at h
      split at h
      · rename_i ies e1
        cases h
        have := ce_tup (k := j) (pos := p) (mapA_ok F e1)
        exact ⟨this, ct_any this fun _ => rfl⟩
      · cases h
    | List es p =>
      simp only [comp] at h
      split at h
      · rename_i ies e1
        cases h
        have := ce_lst (pos := p) (mapA_ok F e1)
        exact ⟨this, ct_any this fun _ => rfl⟩
      · cases h
    | Subscript a s p =>
      have := compSub_ok F (pos := p) h
      exact ⟨this, ct_any this fun _ => rfl⟩
    | Call f es kw p =>
      have := compCall_ok g F h
      exact ⟨this, ct_any this fun _ => rfl⟩
    | ListComp elt gens scope p =>
      obtain ⟨tgE, it, ifs, tg', kk, ies, ic, ie, rfl, rfl, h1, h2, h3, h4, h5⟩ := compLc_parts g F (fun X' W' _ g' => comp_ok m (c.blk scope) X' W' g') h
      have := ce_lc (pos := p) g.calm g.nd h2 h1 h3 h4 h5
      exact ⟨this, ct_any this fun _ => rfl⟩
    | _ => cases h
end
end Ev
end

section
set_option Elab.async false
set_option linter.all false
set_option maxRecDepth 100000
set_option maxHeartbeats 1000000
/-! EvF: from the program's statements to the small language, and that it is sound. -/
namespace Ev
open PySem PySem.Spec L2 PyProof.Rows PySem.EvErr
structure GS (xs : Exs) (cl : Cl) (k : Nat) (c : CEnv) (X : Cx) (W : WX) : Prop extends GX xs cl k c X W where
  pass : PassesOwn (model X.prog X.w) X.A X.env X.xe
  stk : X.stack = X.env :: X.outer
  frm : X.env.frame = some X.env.locals
section
variable {X : Cx} {xs : Exs} {W : WX} {cl : Cl} {k : Nat} {c : CEnv} {n : Nat}
/-- in a try's body -/
theorem GX.tr (g : GX xs cl k c X W) {W' : WX} {pn : List (Addr × Obj)} {xe : Value → Shared → Prop} (tk : Takes (X.tr pn xe) W') : GX xs cl k c (X.tr pn xe) W' := ⟨g.T, g.N, g.nd, g.sc, g.fk, g.calm, tk, g.room, g.fn⟩

/-! ### kept values -/
def popOf (c : CEnv) : Expr → Option Nat
  | .Call (.Attribute (.Name x _) a apos) [] [] cpos => if a = "pop" ∧ (apos.endLine == cpos.line) = true then c.slot x else none
  | _ => none
theorem popOf_ok (g : GX xs cl k c X W) {e : Expr} {i : Nat} (h : popOf c e = some i) : CM xs W n cl X e (.pop i) := by
  unfold popOf at h
  split at h
  · split at h
    · rename_i hh
      obtain ⟨rfl, hl⟩ := hh
      obtain ⟨h1, h2, h3, h4⟩ := g.slot h
      exact cm_pop h1 h2 h3 h4 (okBase_ok rfl) hl
    · cases h
  · cases h
def compE1 (f : Expr → Option E) (e : Expr) : Option M := match f e with | some ia => if isVar ia then none else some (.e ia) | none => none
theorem compE1_ok {f : Expr → Option E} (F : Snd xs W cl X f) {e : Expr} {m : M} (h : compE1 f e = some m) : CM xs W n cl X e m := by
  unfold compE1 at h
  split at h
  · rename_i ia e1
    split at h
    · cases h
    · rename_i hv
      cases h
      exact cm_e (F _ _ e1).1 (Bool.eq_false_iff.mpr hv)
  · cases h
def compM (f : Expr → Option E) (c : CEnv) (n : Nat) (e : Expr) : Option M :=
  match popOf c e with
  | some i => some (.pop i)
  | none => match e with
    | .Call (.Name x _) [a] [] _ => (match popOf c a with
        | some i => if c.glob x && !isSt a then (match c.fns.lookup x with
            | some (j, nio, np) => if nio = 0 ∧ np = 1 then some (.call1 j (.pop i)) else none
            | none => none) else none
        | none => compE1 f e)
    | .Tuple [a, b, d] _ _ => (match popOf c b with
        | some i => if isSt a || isSt b || isSt d then none else (match f a, f d with | some ia, some id => some (.tup3 ia (.pop i) id) | _, _ => none)
        | none => compE1 f e)
    | .Name x _ => (match c.slot x with | some i => if n ≤ i then some (.e (.var i)) else none | none => compE1 f e)
    | _ => compE1 f e
theorem compM_ok (g : GX xs cl k c X W) {f : Expr → Option E} (F : Snd xs W cl X f) {e : Expr} {m : M} (h : compM f c n e = some m) : CM xs W n cl X e m := by
  unfold compM at h
  split at h
  · rename_i i e1; cases h; exact popOf_ok g e1
  · split at h
    · split at h
      · rename_i i e2
        split at h
        · rename_i hg
          simp only [Bool.and_eq_true, Bool.not_eq_true'] at hg
          split at h
          · rename_i j nio np e3
            split at h
            · rename_i hh
              obtain ⟨rfl, rfl⟩ := hh
              cases h
              obtain ⟨h1, h2, h3⟩ := g.glob hg.1
              obtain ⟨fa, fd, ps, q1, q2, q3, q4⟩ := g.T.fns _ _ _ _ e3
              exact cm_call1 q1 g.room g.tk h1 q2 q3 q4 (popOf_ok g e2) h2 (star_plain hg.2)
            · cases h
          · cases h
        · cases h
      · exact compE1_ok F h
    · split at h
      · rename_i i e2
        split at h
        · cases h
        · rename_i hs
          simp only [Bool.or_eq_true, not_or, Bool.not_eq_true] at hs
          split at h
          · rename_i ia id e3 e4
            cases h
            exact cm_tup3 (F _ _ e3).1 (popOf_ok g e2) (F _ _ e4).1 (star_plain hs.1.1) (star_plain hs.1.2) (star_plain hs.2)
          · cases h
      · exact compE1_ok F h
    · split at h
      · rename_i i e2
        split at h
        · rename_i hi
          cases h
          obtain ⟨h1, h2, h3, h4⟩ := g.slot e2
          exact cm_var h1 h2 h3 h4 hi
        · cases h
      · exact compE1_ok F h
    · exact compE1_ok F h

/-! ### what of a value's form is asked -/
def isComp : Expr → Bool
  | .ListComp .. => true
  | .SetComp .. => true
  | .DictComp .. => true
  | _ => false
theorem sw_no {e : Expr} (h : isComp e = false) (t : Option Expr) (l : Nat) (env : Env) : swapsWith e t l env = pure false := by
  unfold swapsWith
  cases e <;> first | rfl | cases h
theorem locB_eq (k : Option NameKind) : (k == some .local) = locB k := by
  cases k with
  | none => rfl
  | some q => cases q <;> rfl
theorem sw_lc (g : GX xs cl k c X W) {elt : Expr} {gs : List Comprehension} {scope : Scope} {pos py : Pos} {y : Str} {l : Nat} :
    swapsWith (.ListComp elt gs scope pos) (some (.Name y py)) l X.env = pure (locB (c.sc.names.lookup y) && (py.line == pos.line) && !(scope.names.any fun (n, k) => n == y && (k == .local || k == .cell))) := by
  have ky : X.env.kindOf y = c.sc.names.lookup y := by rw [← g.sc]; rfl
  have hb : X.env.blockKind = .function := by unfold Env.blockKind; rw [show X.env.scope.kind = .function by rw [g.sc]; exact g.fk]; rfl
  unfold swapsWith
  simp only [hb, ky, Expr.pos, locB_eq]
  rfl
def isTupE : Expr → Bool
  | .Tuple .. => true
  | _ => false
theorem ss_no {tg e : Expr} {env : Env} (h : isTupE e = false) : swappedStores [tg] e env = pure none := by
  unfold swappedStores
  split
  · rename_i heq
    split at heq
    · cases h
    · cases h
    · cases heq
  · rfl

/-! ### assignments -/
def compAsgN (f f' : Expr → Option E) (fl : (Expr → Option E) × (Scope → Expr → Option E)) (c : CEnv) (n : Nat) (x : Str) (py : Pos) (e : Expr) : Option S :=
  match c.lslot x with
  | none => none
  | some i => if n ≤ i then (match e with
      | .ListComp elt gens scope pos =>
          if locB (c.sc.names.lookup x) && (py.line == pos.line) && !(scope.names.any fun (n, k) => n == x && (k == .local || k == .cell)) then (match compLc fl.1 (fl.2 scope) c scope elt gens with | some ia => some (.asg (.one i) ia) | none => none)
          else (match f e with | some ia => if isVar ia then none else some (.asg (.one i) ia) | none => none)
      | e => if isComp e then none else (match compM f c n e with
          | some (.e a) => some (.asg (.one i) a)
          | some m => some (.asgM i m)
          | none => none)) else none
theorem compAsgN_ok (g : GX xs cl k c X W) {f f' : Expr → Option E} {fl : (Expr → Option E) × (Scope → Expr → Option E)} (F : Snd xs W cl X f) (F1 : Snd xs W cl X fl.1) (F2 : ∀ (scope : Scope) (X' : Cx) (W' : WX), X'.K = X.K → GX xs cl k (c.blk scope) X' W' → Snd xs W' cl X' (fl.2 scope))
    {x : Str} {py spos : Pos} {e : Expr} {s : S} (h : compAsgN f f' fl c n x py e = some s) : CS xs W n cl X (.Assign [.Name x py] e spos) s := by
  unfold compAsgN at h
  split at h
  · cases h
  · rename_i i e1
    obtain ⟨h1, h2, h3, h4⟩ := g.lslot e1
    split at h
    · rename_i hn
      split at h
      · rename_i elt gens scope pos
        have sw := sw_lc g (elt := elt) (gs := gens) (scope := scope) (pos := pos) (py := py) (y := x) (l := spos.line)
        split at h
        · rename_i hb
          rw [hb] at sw
          have hl : X.env.scope.names.lookup x = some .local := by
            simp only [Bool.and_eq_true] at hb
            rw [g.sc]
            exact loc_of hb.1.1
          split at h
          · rename_i ia e2
            cases h
            obtain ⟨tgE, it, ifs, tg', kk, ies, ic, ie, rfl, rfl, q1, q2, q3, q4, q5⟩ := compLc_parts g F1 (fun X' W' hK g' => F2 scope X' W' hK g') e2
            exact cs_setLc g.calm g.nd h1 hl sw q2 q1 q3 q4 q5 hn
          · cases h
        · rename_i hb
          rw [Bool.eq_false_iff.mpr hb] at sw
          split at h
          · rename_i ia e2
            split at h
            · cases h
            · rename_i hv
              cases h
              exact cs_set g.nd h1 h2.1 (cm_e (F _ _ e2).1 (Bool.eq_false_iff.mpr hv)) hn sw h2.2
          · cases h
      · split at h
        · cases h
        · rename_i hc
          have sw := sw_no (Bool.eq_false_iff.mpr hc) (some (.Name x py)) spos.line X.env
          split at h
          · rename_i a e2; cases h; exact cs_set g.nd h1 h2.1 (compM_ok g F e2) hn sw h2.2
          · rename_i m _ e2; cases h; exact cs_setM g.nd h1 h2.1 (compM_ok g F e2) hn sw h2.2
          · cases h
    · cases h
def compAsgT (f : Expr → Option E) (c : CEnv) (n : Nat) (tg e : Expr) : Option S :=
  if isComp e || isTupE e || isSt tg then none else match compTg c tg, compM f c n e with
    | some tg', some (.e a) => if tgLo n tg' then some (.asg tg' a) else none
    | _, _ => none
theorem compAsgT_ok (g : GX xs cl k c X W) {f : Expr → Option E} (F : Snd xs W cl X f) {tg e : Expr} {spos : Pos} {s : S} (h : compAsgT f c n tg e = some s) : CS xs W n cl X (.Assign [tg] e spos) s := by
  unfold compAsgT at h
  split at h
  · cases h
  · rename_i hb
    simp only [Bool.or_eq_true, not_or, Bool.not_eq_true] at hb
    split at h
    · rename_i tg' a e1 e2
      split at h
      · rename_i hl
        cases h
        refine cs_asg (compM_ok g F e2) (compTg_ok g e1) hl ?_ (ss_no hb.1.2) ?_
        · exact sw_no hb.1.1 (some tg) spos.line X.env
        · cases tg <;> first | rfl | cases hb.2
      · cases h
    · cases h

/-! ### expression statements -/
def compIo (f : Expr → Option E) (c : CEnv) : Nat → List Expr → Option (List Nat × Es)
  | 0, es => if plainB es then (match mapA f es with | some ies => some ([], ies) | none => none) else none
  | m + 1, .Name x _ :: es => (match c.slot x, compIo f c m es with | some i, some (is, ies) => some (i :: is, ies) | _, _ => none)
  | _ + 1, _ => none
theorem compIo_ok (g : GX xs cl k c X W) {f : Expr → Option E} (F : Snd xs W cl X f) : ∀ {m : Nat} {es : List Expr} {is : List Nat} {ies : Es}, compIo f c m es = some (is, ies) → PA X es (SAio xs X.K W is (evEs cl ies)) ∧ plainB es = true ∧ is.length = m ∧ ∀ ρ qs, evEs cl ies ρ = .ok qs → m + qs.length = es.length
  | 0, es, is, ies, h => by
    simp only [compIo] at h
    split at h
    · rename_i hp
      split at h
      · rename_i ies' e1
        cases h
        exact ⟨cio_nil (mapA_ok F e1), hp, rfl, fun ρ qs e => by rw [evEs_len e1 hp ρ qs e]; omega⟩
      · cases h
    · cases h
  | m + 1, es, is, ies, h => by
    cases es with
    | nil => cases h
    | cons a es =>
    cases a <;> try (cases h; done)
    simp only [compIo] at h
    split at h
    · rename_i i is' ies' e1 e2
      cases h
      obtain ⟨h1, h2, h3, h4⟩ := g.slot e1
      obtain ⟨p1, p2, p3, p4⟩ := compIo_ok g F e2
      refine ⟨cio_cons h1 h2 h3 h4 p1 rfl, ?_, by simp [p3], fun ρ qs e => by have := p4 ρ qs e; simp only [List.length_cons]; omega⟩
      simp only [plainB, List.all_cons, isSt, Bool.not_false, Bool.true_and]
      exact p2
    · cases h
def compX (f : Expr → Option E) (e : Expr) : Option S := if isComp e then none else match f e with | some ia => some (.expr ia) | none => none
theorem compX_ok {f : Expr → Option E} (F : Snd xs W cl X f) {e : Expr} {s : S} {pos : Pos} (h : compX f e = some s) : CS xs W n cl X (.Expr e pos) s := by
  unfold compX at h
  split at h
  · cases h
  · rename_i hc
    split at h
    · rename_i ia e1; cases h; exact cs_expr (F _ _ e1).1 (sw_no (Bool.eq_false_iff.mpr hc) _ _ _)
    · cases h
def compEx (f : Expr → Option E) (c : CEnv) (n : Nat) (e : Expr) : Option S :=
  match e with
  | .Constant (.str _) _ _ => some .pass
  | .Call (.Attribute (.Name x _) a apos) [] [] cpos => if a = "pop" ∧ (apos.endLine == cpos.line) = true then (match c.slot x with | some i => some (.popS i) | none => none) else none
  | .Call (.Attribute (.Name x _) a apos) [v] [] cpos =>
      if a = "append" then (if (apos.endLine == cpos.line) && !isSt v then (match c.slot x, compM f c n v with | some i, some m => some (.app i m) | _, _ => none) else none)
      else if a = "extend" then (if (apos.endLine == cpos.line) && !isSt v then (match c.slot x, f v with | some i, some ia => some (.ext i ia) | _, _ => none) else none)
      else none
  | .Call (.Name x _) es [] _ => (match c.fns.lookup x with
      | some (j, nio, np) => if nio = 0 then compX f e else if c.glob x && decide (es.length = np) then (match compIo f c nio es with | some (is, ies) => some (.io j is ies) | none => none) else none
      | none => compX f e)
  | e => compX f e
theorem few1 {env : Env} {cpos : Pos} {v : Expr} (hv : isSt v = false) : ((backTo cpos (starEach [v] env)).all (fun x => !x.1) && (backToKw cpos (keywordEach [] env)).all (fun x => x.1.isSome) && decide ([v].length + ([] : List Keyword).length + (if ([] : List Keyword).isEmpty then 0 else 1) < 30)) = true :=
  few_ok (by simp [plainB, hv]) (by simp)
theorem compEx_ok (g : GX xs cl k c X W) {f : Expr → Option E} (F : Snd xs W cl X f) {e : Expr} {pos : Pos} {s : S} (h : compEx f c n e = some s) : CS xs W n cl X (.Expr e pos) s := by
  unfold compEx at h
  split at h
  · cases h; exact cs_doc
  · split at h
    · rename_i hh
      obtain ⟨rfl, hl⟩ := hh
      split at h
      · rename_i i e1
        cases h
        obtain ⟨h1, h2, h3, h4⟩ := g.slot e1
        exact cs_pop h1 h2 h3 h4 (okBase_ok rfl) hl (sw_no rfl _ _ _)
      · cases h
    · cases h
  · split at h
    · rename_i q
      subst q
      split at h
      · rename_i hh
        simp only [Bool.and_eq_true, Bool.not_eq_true'] at hh
        split at h
        · rename_i i m e1 e2
          cases h
          obtain ⟨h1, h2, h3, h4⟩ := g.slot e1
          exact cs_app h1 h2 h3 h4 (compM_ok g F e2) (okBase_ok rfl) (few1 hh.2) hh.1 (star_plain hh.2) (sw_no rfl _ _ _)
        · cases h
      · cases h
    · split at h
      · rename_i q
        subst q
        split at h
        · rename_i hh
          simp only [Bool.and_eq_true, Bool.not_eq_true'] at hh
          split at h
          · rename_i i m e1 e2
            cases h
            obtain ⟨h1, h2, h3, h4⟩ := g.slot e1
            exact cs_ext h1 h2 h3 h4 (F _ _ e2).1 (okBase_ok rfl) (few1 hh.2) hh.1 (star_plain hh.2) (sw_no rfl _ _ _)
          · cases h
        · cases h
      · cases h
  · split at h
    · rename_i j nio np e1
      split at h
      · exact compX_ok F h
      · rename_i hne
        split at h
        · rename_i hh
          simp only [Bool.and_eq_true, decide_eq_true_eq] at hh
          split at h
          · rename_i is ies e2
            cases h
            obtain ⟨p1, p2, p3, p4⟩ := compIo_ok g F e2
            obtain ⟨h1, h2, h3⟩ := g.glob hh.1
            obtain ⟨fa, fd, ps, q1, q2, q3, q4⟩ := g.T.fns _ _ _ _ e1
            rename_i es _ _ _
            cases es with
            | nil => exact absurd (by cases nio <;> first | rfl | cases e2) hne
            | cons a es =>
            obtain ⟨u1, u2⟩ := plain_cons p2
            rw [← p3] at q1
            exact cs_io q1 g.room g.tk h1 q2 q3 q4 p1 h2 (star_plain u1) (plain_any u2) (fun ρ qs e => by rw [p3, p4 ρ qs e]; exact hh.2) (sw_no rfl _ _ _)
          · cases h
        · cases h
    · exact compX_ok F h
  · exact compX_ok F h
end
end Ev
end

section
set_option Elab.async false
set_option linter.all false
set_option maxRecDepth 100000
set_option maxHeartbeats 1000000
/-! EvG: the whole of the statements; a def. -/
namespace Ev
open PySem PySem.Spec L2 PyProof.Rows PySem.EvErr
section
variable {X : Cx} {xs : Exs} {W : WX} {cl : Cl} {k : Nat} {c : CEnv} {n : Nat}

/-! ### for -/
def isVarIt : Itk → Es → Bool
  | .seq, .cons false (.var _) .nil => true
  | _, _ => false
theorem lock_no {kk : Itk} {it : Es} (h : isVarIt kk it = false) (ρ : List Slot) : lockOf kk it ρ = none := by
  unfold lockOf
  split
  · cases h
  · rfl
def compFor (f : Expr → Option E) (c : CEnv) (n : Nat) (tg it : Expr) (ib : Ss) : Option S :=
  match compTg c tg with
  | none => none
  | some tg' => if tgLo n tg' && !isSetE it then (match it with
      | .Name x _ => (match c.slot x with
          | some j => some (.forS tg' .seq (.cons false (.var j) .nil) ib)
          | none => (match compIt f c it with | some (kk, ies) => if isVarIt kk ies then none else some (.forS tg' kk ies ib) | none => none))
      | it => (match compIt f c it with | some (kk, ies) => if isVarIt kk ies then none else some (.forS tg' kk ies ib) | none => none)) else none
theorem compFor_ok (g : GS xs cl k c X W) {f : Expr → Option E} (F : Snd xs W cl X f) {tg it : Expr} {body : List Stmt} {ib : Ss} {s : S} {pos : Pos} (hb : CSs xs W n cl X body ib) (h : compFor f c n tg it ib = some s) : CS xs W n cl X (.For tg it body [] pos) s := by
  unfold compFor at h
  split at h
  · cases h
  · rename_i tg' e1
    split at h
    · rename_i hh
      simp only [Bool.and_eq_true, Bool.not_eq_true'] at hh
      have hg := compTg_ok g.toGX e1
      have gen : ∀ {it : Expr}, isSetE it = false → (match compIt f c it with | some (kk, ies) => if isVarIt kk ies then none else some (.forS tg' kk ies ib) | none => none) = some s → CS xs W n cl X (.For tg it body [] pos) s := fun {it} hs h => by
        split at h
        · rename_i kk ies e2
          split at h
          · cases h
          · rename_i hv
            cases h
            exact cs_for g.pass g.calm (compIt_ok g.toGX F e2) hg hb hh.1 (lock_no (Bool.eq_false_iff.mpr hv)) (notSet hs)
        · cases h
      split at h
      · rename_i x p
        split at h
        · rename_i j e2
          cases h
          obtain ⟨h1, h2, h3, h4⟩ := g.slot e2
          exact cs_forV g.pass g.calm h1 h2 h3 h4 hg hb hh.1 (notSet rfl)
        · exact gen hh.2 h
      · exact gen hh.2 h
    · cases h

/-! ### statement by statement -/
def compSs (f : Stmt → Option S) : List Stmt → Option Ss
  | [] => some .nil
  | st :: r => (match f st, compSs f r with | some s, some ss => some (.cons s ss) | _, _ => none)
theorem compSs_ok {f : Stmt → Option S} (F : ∀ st s, f st = some s → CS xs W n cl X st s) : ∀ {sts : List Stmt} {ss : Ss}, compSs f sts = some ss → CSs xs W n cl X sts ss
  | [], _, h => by cases h; exact css_nil
  | st :: r, ss, h => by
    simp only [compSs] at h
    split at h
    · rename_i s ss' e1 e2
      cases h
      exact css_cons (F _ _ e1) (compSs_ok F e2)
    · cases h
def compRet (f : Expr → Option E) (c : CEnv) (n : Nat) (e : Expr) : Option S :=
  match e with
  | .Name x _ => (match c.slot x with
      | some i => if n ≤ i then some (.ret (.var i)) else none
      | none => (match f e with | some ia => if isVar ia then none else some (.ret ia) | none => none))
  | e => (match f e with | some ia => if isVar ia then none else some (.ret ia) | none => none)
theorem compRet_ok (g : GX xs cl k c X W) {f : Expr → Option E} (F : Snd xs W cl X f) {e : Expr} {s : S} {pos : Pos} (h : compRet f c n e = some s) : CS xs W n cl X (.Return (some e) pos) s := by
  have gen : ∀ {e : Expr}, (match f e with | some ia => if isVar ia then none else some (.ret ia) | none => none) = some s → CS xs W n cl X (.Return (some e) pos) s := fun {e} h => by
    split at h
    · rename_i ia e1
      split at h
      · cases h
      · rename_i hv; cases h; exact cs_ret (F _ _ e1).1 (Bool.eq_false_iff.mpr hv)
    · cases h
  unfold compRet at h
  split at h
  · split at h
    · rename_i i e1
      split at h
      · rename_i hi
        cases h
        obtain ⟨h1, h2, h3, h4⟩ := g.slot e1
        exact cs_retV h1 h2 h3 h4 hi
      · cases h
    · exact gen h
  · exact gen h
def compRais (f : Expr → Option E) (c : CEnv) (e : Expr) : Option S :=
  match e with
  | .Call (.Name nm _) [a] [] _ => if c.glob nm && !isSt a then (match c.errs.lookup nm, f a with | some y, some ia => some (.rais y ia) | _, _ => none) else none
  | _ => none
theorem compRais_ok (g : GX xs cl k c X W) {f : Expr → Option E} (F : Snd xs W cl X f) {e : Expr} {s : S} {pos : Pos} (h : compRais f c e = some s) : CS xs W n cl X (.Raise (some e) none pos) s := by
  unfold compRais at h
  split at h
  · split at h
    · rename_i hh
      simp only [Bool.and_eq_true, Bool.not_eq_true'] at hh
      split at h
      · rename_i y ia e1 e2
        cases h
        obtain ⟨h1, h2, h3⟩ := g.glob hh.1
        obtain ⟨C, fI, q1, q2, q3⟩ := g.T.errs _ _ e1
        exact cs_rais g.calm q1 g.room g.tk (F _ _ e2).1 h1 h2 (star_plain hh.2) q2
      · cases h
    · cases h
  · cases h
def compTry (f : Expr → Option E) (c : CEnv) (body : List Stmt) (hds : List ExceptHandler) (orelse fin : List Stmt) : Option S :=
  match body, hds, orelse, fin with
  | [.Return (some e) _], [.ExceptHandler (some (.Name nm _)) (some y) [.Return (some (.Attribute (.Name y' _) a _)) _] _], [], [] =>
      if y = y' ∧ a = "at" ∧ c.glob nm = true ∧ locB (c.sc.names.lookup y) = true then (match c.lslot y, c.errs.lookup nm, f e with
        | some i, some x, some ia => if isVar ia then none else some (.tryAt x i ia)
        | _, _, _ => none) else none
  | _, _, _, _ => none
theorem compTry_ok (g : GS xs cl k c X W) {f : Expr → Option E} (F : ∀ (X' : Cx) (W' : WX), X'.K = X.K → GX xs cl k c X' W' → Snd xs W' cl X' f) {body : List Stmt} {hds : List ExceptHandler} {orelse fin : List Stmt} {s : S} {pos : Pos} (h : compTry f c body hds orelse fin = some s) :
    CS xs W n cl X (.Try body hds orelse fin pos) s := by
  unfold compTry at h
  split at h
  · split at h
    · rename_i hh
      obtain ⟨rfl, rfl, hg, hl⟩ := hh
      split at h
      · rename_i i x ia e1 e2 e3
        split at h
        · cases h
        · rename_i hv
          cases h
          obtain ⟨h1, h2, h3, h4⟩ := g.lslot e1
          obtain ⟨p1, p2, p3⟩ := g.glob hg
          obtain ⟨C, fI, q1, q2, q3⟩ := g.T.errs _ _ e2
          exact cs_try g.stk g.frm g.nd h1 (show X.env.scope.names.lookup _ = _ by rw [g.sc]; exact loc_of hl) h3 h4 p1 p2 q1 g.tk q2 q3 (fun W' pn xe tk' _ => (F (X.tr pn xe) W' rfl (g.toGX.tr tk') _ _ e3).1) (Bool.eq_false_iff.mpr hv)
      · cases h
    · cases h
  · cases h
/-- how deep an expression may be -/
def cfuel : Nat := 40
def compS : Nat → CEnv → Nat → Stmt → Option S
  | 0, _, _, _ => none
  | _ + 1, _, _, .Pass _ => some .pass
  | _ + 1, _, _, .Break _ => some .brk
  | _ + 1, _, _, .Continue _ => some .cnt
  | _ + 1, c, n, .Expr e _ => compEx (comp cfuel c) c n e
  | _ + 1, c, n, .Assign tgs e _ => (match tgs with
      | [tg] => (match tg with
          | .Name x py => compAsgN (comp cfuel c) (comp cfuel c) (comp cfuel c, fun sc => comp cfuel (c.blk sc)) c n x py e
          | tg => compAsgT (comp cfuel c) c n tg e)
      | _ => none)
  | _ + 1, c, n, .AugAssign tg op e _ => (match tg, op with
      | .Name x _, .Add => (match c.lslot x, comp cfuel c e with | some i, some ia => if n ≤ i then some (.aug i .add ia) else none | _, _ => none)
      | .Name x _, .Sub => (match c.lslot x, comp cfuel c e with | some i, some ia => if n ≤ i then some (.aug i .sub ia) else none | _, _ => none)
      | _, _ => none)
  | m + 1, c, n, .If t a b _ => (match comp cfuel c t, compSs (compS m c n) a, compSs (compS m c n) b with | some it, some ia, some ib => some (.ifS it ia ib) | _, _, _ => none)
  | m + 1, c, n, .While t a o _ => (match o with | [] => (match comp cfuel c t, compSs (compS m c n) a with | some it, some ia => some (.whl it ia) | _, _ => none) | _ => none)
  | m + 1, c, n, .For tg it a o _ => (match o with | [] => (match compSs (compS m c n) a with | some ia => compFor (comp cfuel c) c n tg it ia | none => none) | _ => none)
  | _ + 1, c, n, .Return v _ => (match v with | none => some .retN | some e => compRet (comp cfuel c) c n e)
  | _ + 1, c, _, .Raise v cause _ => (match v, cause with | some e, none => compRais (comp cfuel c) c e | _, _ => none)
  | _ + 1, c, _, .Try body hds orelse fin _ => compTry (comp cfuel c) c body hds orelse fin
  | _, _, _, _ => none
theorem compS_ok (g : GS xs cl k c X W) : ∀ (m : Nat) (st : Stmt) (s : S), compS m c n st = some s → CS xs W n cl X st s
  | 0, _, _, h => by cases h
  | m + 1, st, s, h => by
    have F := comp_ok (xs := xs) (cl := cl) (k := k) cfuel c X W g.toGX
    cases st with
    | Pass p => cases h; exact cs_pass
    | Break p => cases h; exact cs_brk
    | Continue p => cases h; exact cs_cnt
    | Expr e p => exact compEx_ok g.toGX F h
    | Assign tgs e p =>
      simp only [compS] at h
      split at h
      · rename_i tg
        split at h
        · exact compAsgN_ok g.toGX F F (fun scope X' W' _ g' => comp_ok cfuel _ X' W' g') h
        · exact compAsgT_ok g.toGX F h
      · cases h
    | AugAssign tg op e p =>
      simp only [compS] at h
      split at h
      · split at h
        · rename_i i ia e1 e2
          split at h
          · rename_i hn
            cases h
            obtain ⟨h1, h2, h3, h4⟩ := g.lslot e1
            exact cs_aadd g.nd h1 h2.1 (F _ _ e2).1 hn h2.2
          · cases h
        · cases h
      · split at h
        · rename_i i ia e1 e2
          split at h
          · rename_i hn
            cases h
            obtain ⟨h1, h2, h3, h4⟩ := g.lslot e1
            exact cs_asub g.nd h1 h2.1 (F _ _ e2).1 hn h2.2
          · cases h
        · cases h
      · cases h
    | If t a b p =>
      simp only [compS] at h
      split at h
      · rename_i it ia ib e1 e2 e3
        cases h
        exact cs_if (F _ _ e1).2 (compSs_ok (compS_ok g m) e2) (compSs_ok (compS_ok g m) e3)
      · cases h
    | While t a o p =>
      simp only [compS] at h
      split at h
      · split at h
        · rename_i it ia e1 e2
          cases h
          exact cs_whl g.pass (F _ _ e1).2 (compSs_ok (compS_ok g m) e2)
        · cases h
      · cases h
    | For tg it a o p =>
      simp only [compS] at h
      split at h
      · split at h
        · rename_i ia e1
          exact compFor_ok g F (compSs_ok (compS_ok g m) e1) h
        · cases h
      · cases h
    | Return v p =>
      simp only [compS] at h
      split at h
      · cases h; exact cs_retN
      · exact compRet_ok g.toGX F h
    | Raise v cause p =>
      simp only [compS] at h
      split at h
      · exact compRais_ok g.toGX F h
      · cases h
    | Try body hds orelse fin p => exact compTry_ok g (fun X' W' _ g' => comp_ok cfuel c X' W' g') h
    | _ => cases h
end

/-! ### a def -/
section
variable {P : Program} {w : World} {K : PySem.W.Frag} {mg : Str → Option Value} {base : Heap} {xs : Exs}
def Gh.start (H : Hp) (F : Fb) (os : List Addr) : Gh := { pin := fun a o => H a = some o ∧ a ∉ os, nf := fun a => H a ≠ none ∧ ¬ F a, bad := F, old := fun a => H a ≠ none, os := os, lks := fun _ _ => False }
theorem env_rest {H : Hp} {F : Fb} : ∀ {ds : List D} {vs : List V} (m : Nat), RepVs K H F ds vs → EnvR K H F (ds.map .val ++ List.replicate m .none) (vs.map some ++ List.replicate m none) []
  | [], _, 0, .nil => .nil
  | [], _, m + 1, .nil => .emp (env_rest m .nil)
  | _ :: _, _, m, .cons h r => .val h (env_rest m r)
theorem ArgR.length {H : Hp} {F : Fb} {n : Nat} {ds : List D} {vs : List V} {os : List Addr} (h : ArgR K H F n ds vs os) : ds.length = vs.length ∧ os.length = n ∧ n ≤ ds.length := by
  induction h with
  | nil r => exact ⟨r.length, rfl, Nat.zero_le _⟩
  | cons _ _ _ ih => simp only [List.length_cons]; omega
theorem env_start {H : Hp} {F : Fb} {n : Nat} {ds : List D} {vs : List V} {os : List Addr} (m : Nat) (h : ArgR K H F n ds vs os) : EnvR K H F ((ds.take n).map .own ++ (ds.drop n).map .val ++ List.replicate m .none) (vs.map some ++ List.replicate m none) os ∧
    ∀ i a, os[i]? = some a → At ((ds.take n).map .own ++ (ds.drop n).map .val ++ List.replicate m .none) (vs.map some ++ List.replicate m none) i a := by
  induction h with
  | nil r => exact ⟨by simpa using env_rest m r, fun i a e => by simp at e⟩
  | @cons n' a' ws' es' ds' vs' os' e r h ih =>
    refine ⟨by simpa using EnvR.own e r ih.1, fun i a q => ?_⟩
    cases i with
    | zero =>
      simp at q
      subst q
      exact ⟨⟨.lst es', .inl (by simp)⟩, by simp⟩
    | succ i =>
      have := ih.2 i a (by simpa using q)
      have := (At.succ (s := .own (.lst es')) (x := some (V.ref a'))).mpr this
      simpa using this
theorem env_noLck {ρ : List Slot} (h : ∀ s ∈ ρ, ∀ d, s ≠ Slot.lck d) {j : Nat} {d : D} (e : ρ[j]? = some (Slot.lck d)) : False := h _ (List.mem_of_getElem? e) d rfl
/-- what was handed over, as the names have it behind -/
theorem outs_ok {H : Hp} {F F' : Fb} (hF : ∀ a, F' a → F a) : ∀ {ρ : List Slot} {σ : L2.St} {Own os : List Addr} {n : Nat} {outs : List D}, EnvR K H F ρ σ Own → outsOf n ρ = some outs → os.length = n → (∀ (i : Nat) (a : Addr), os[i]? = some a → σ[i]? = some (some (V.ref a))) → OutR K H F' outs os
  | _, _, _, [], _, _, _, e, rfl, _ => by
    simp only [outsOf, List.length_nil] at e
    cases e; exact .nil
  | _, _, _, a :: os, _, outs, .nil, e, rfl, _ => by simp [outsOf] at e
  | _, _, _, a :: os, _, outs, .emp _, e, rfl, _ => by simp [outsOf] at e
  | _, _, _, a :: os, _, outs, .val _ _, e, rfl, _ => by simp [outsOf] at e
  | _, _, _, a :: os, _, outs, .lck _ _ _, e, rfl, _ => by simp [outsOf] at e
  | _, _, _, a :: os, _, outs, .own hH hr r, e, rfl, hs => by
    simp only [outsOf, List.length_cons] at e
    split at e
    · rename_i r' e2
      cases e
      have := hs 0 a rfl
      simp at this
      subst this
      exact .cons hH (hr.less hF) (outs_ok hF r e2 rfl fun i b q => by simpa using hs (i + 1) b (by simpa using q))
    · cases e
theorem fn_pure {fn : Fn} {j : Nat} {pr : Prog} {k : Nat} (hpr : pr j = some fn) {N : List Str} (hns : fn.ns = N.length) (hnio : fn.nio ≤ fn.np) {vs : List V} {H : Hp} {Q : VK} {Er : XK} (h : spD xs K (callF pr (k + 1)) j fn.nio fn.np vs H Q Er) :
    SS xs K (fun cls d _ H => Er cls d H) fn.nio (evSs (callF pr k) fn.body) { nx := fun _ H' => Q .non H', rt := Q } (start N vs) H := by
  obtain ⟨hl, ds, F, os, ar, nd, sub, ex, h⟩ := h
  obtain ⟨l1, l2, l3⟩ := ar.length
  have hd : ds.length = fn.np := by rw [l1, hl]
  have es := env_start (N.length - vs.length) ar
  have e0 : startF fn ds = (ds.take fn.nio).map .own ++ (ds.drop fn.nio).map .val ++ List.replicate (N.length - vs.length) .none := by unfold startF; rw [hns, l1]
  refine ⟨Gh.start H F os, startF fn ds, F, os, l2, ?_, ?_⟩
  · rw [e0]
    refine ⟨es.1, nd, sub, ex, fun a o p => ⟨p.1, .inl p.2⟩, fun a p => p, fun a p => ⟨p, ex a p⟩, fun a p => p, fun a m => .inl m, es.2, fun j' d a e1 _ => ?_⟩
    refine env_noLck (fun s hs d => ?_) e1
    simp only [List.mem_append, List.mem_map, List.mem_replicate] at hs
    rcases hs with (⟨x, _, rfl⟩ | ⟨x, _, rfl⟩) | ⟨_, rfl⟩ <;> nofun
  · have h : match (match pr j with | some fn => if ds.length = fn.np then finish fn (evSs (callF pr k) fn.body (startF fn ds)) else .stuck | none => .stuck : R (Kd × D × List D)) with
        | .ok r => ∀ v H', Keep os H H' → Res K H H' F [] (r.1, r.2.1) v → OutR K H' F r.2.2 os → Q v H'
        | .exn x a => ∀ cls dd H', Keep os H H' → ExR xs K H' x a cls dd → Er cls dd H'
        | .stuck => False := h
    rw [hpr] at h
    dsimp only at h
    rw [if_pos hd] at h
    have kp : ∀ {H' : Hp} {F' : Fb} {ρ' : List Slot} {σ' : L2.St} {o' : List Addr}, StS K (Gh.start H F os) H' F' ρ' σ' o' → Keep os H H' := fun st a o e na => (st.pin a o ⟨e, na⟩).1
    have fl : ∀ {H' : Hp} {F' : Fb} {ρ' : List Slot} {σ' : L2.St} {o' : List Addr}, StS K (Gh.start H F os) H' F' ρ' σ' o' → ∀ a, F a → F' a := fun st a f => (st.bad a f).1
    revert h
    cases evSs (callF pr k) fn.body (startF fn ds) with
    | nx ρ =>
      intro h σ' H' F' o' st
      simp only [finish] at h
      cases eo : outsOf fn.nio ρ with
      | none => rw [eo] at h; exact h.elim
      | some outs =>
        rw [eo] at h
        exact h .non H' (kp st) .non (outs_ok (fl st) st.env eo l2 fun i a q => (st.io i a q).2)
    | rt kd d ρ =>
      intro h v σ' H' F' o' st r
      simp only [finish] at h
      by_cases hz : fn.nio = 0
      · rw [if_pos hz] at h
        have : os = [] := by
          have := l2
          rw [hz] at this
          exact List.length_eq_zero_iff.mp this
        subst this
        refine h v H' (kp st) ?_ .nil
        cases kd with
        | v => exact RepV.less (fl st) r
        | f =>
          obtain ⟨a, vs, ds, rfl, rfl, no, e1, r1⟩ := r
          refine ⟨a, vs, ds, rfl, rfl, ?_, e1, r1.less fun b q => q.elim (fun f => .inl (fl st b f)) .inr⟩
          cases e : H a with
          | none => rfl
          | some o => exact absurd (show (Gh.start H F []).old a from by show H a ≠ none; rw [e]; nofun) no
        | b => exact r.elim
      · rw [if_neg hz] at h
        by_cases hl : lf d = true
        · rw [if_pos hl] at h
          cases eo : outsOf fn.nio ρ with
          | none => rw [eo] at h; exact h.elim
          | some outs =>
            rw [eo] at h
            refine h v H' (kp st) ?_ (outs_ok (fl st) st.env eo l2 fun i a q => (st.io i a q).2)
            cases kd with
            | v => exact RepV.free r hl
            | f =>
              obtain ⟨a, vs, ds, rfl, _⟩ := r
              simp [lf] at hl
            | b => exact r.elim
        · rw [if_neg hl] at h; exact h.elim
    | exn x a => exact fun h cls dd σ' H' pn ex => h cls dd H' (fun b o e nb => pn b o ⟨e, nb⟩) ex
    | bk ρ => exact fun h => h.elim
    | ct ρ => exact fun h => h.elim
    | stuck => exact fun h => h.elim
/-- A DEF: what its text compiles to is what it computes -/
theorem def_ok {x qual : Str} {st : Stmt} {f : Addr} {fd : FuncData} {N ps : List Str} {k : Nat} {c : CEnv} {fn : Fn} {j : Nat} {pr : Prog} (Fu : Fun K x qual st f fd) (S : FnScope N ps (defScope st)) (hcN : c.N = N) (hcs : c.sc = defScope st)
    (hpr : pr j = some fn) (hnp : fn.np = ps.length) (hnio : fn.nio ≤ fn.np) (hns : fn.ns = N.length) (hb : compSs (compS 20 c fn.nio) (defBody st) = some fn.body) (T : GT xs (callF pr k) k c P w K mg base) :
    FnOk P w K mg base (L2.CX P w) (k + 1) f fd ps (spD xs K (callF pr (k + 1)) j fn.nio fn.np) := by
  refine Fu.okX S (fun vs H Q E h => by rw [h.1, hnp]) fun cdv A outer s H vs Q E hr h => ⟨SS xs K (fun cls d _ H => E cls d H) fn.nio (evSs (callF pr k) fn.body), ?_, fn_pure hpr hns hnio h⟩
  have g : GS xs (callF pr k) k c (cxOf (L2.CX P w) P w K mg base N qual (defScope st) f cdv A outer s H E) (fun cls d _ H => E cls d H) :=
    { T := T, N := hcN.symm, nd := S.nd, sc := hcs.symm, fk := by rw [hcs]; exact S.kind, calm := rfl, tk := takes_of rfl rfl rfl rfl, room := hr, fn := fun _ _ => rfl, pass := passes_of rfl, stk := rfl, frm := rfl }
  exact compSs_ok (compS_ok g 20) hb
end
end Ev
end

section
set_option Elab.async false
set_option linter.all false
set_option maxRecDepth 100000
set_option maxHeartbeats 1000000
/-! EvT: defs that replace within texts (a token must be out). -/
namespace Ev
open PySem PySem.Spec L2 PyProof.Rows PySem.EvErr CwR
section
variable {X : Cx} {xs : Exs} {W : WX} {cl : Cl} {k : Nat} {c : CEnv} {n : Nat}
abbrev CET (xs : Exs) (W : WX) (cl : Cl) (X : Cx) (e : Expr) (ir : E) : Prop := PET X e (SR xs X.K W (evE cl ir))
theorem petImp {e : Expr} {t t' : TE} (h : PET X e t) (f : ∀ σ H Q, t' σ H Q → t σ H Q) : PET X e t' := fun pins s σ H Q h0 I q => h pins s σ H Q h0 I (f _ _ _ q)
theorem pstImp {e : Stmt} {t t' : TS} (h : PST X e t) (f : ∀ D σ H, t' D σ H → t D σ H) : PST X e t' := fun pins s σ H Q h0 I q => h pins s σ H Q h0 I (f _ _ _ q)
theorem psstImp {e : List Stmt} {t t' : TS} (h : PSsT X e t) (f : ∀ D σ H, t' D σ H → t D σ H) : PSsT X e t' := fun pins s σ H Q h0 I q => h pins s σ H Q h0 I (f _ _ _ q)
theorem pet_bm {o e : Expr} {es : List Expr} {to : TE} {t : TA} {name : Str} {apos cpos : Pos} {T id : String} {r : V → List V → Hp → VK → Prop} (pa : PlainAttrs T) (slot : PySem.Slot T name id) (hty : typeOf (.builtin id) = pure (.type "method_descriptor")) (hm : MtR X id r) (ho : PET X o to) (ha : PA X (e :: es) t)
    (hbase : attributeBase o name X.env (eval o X.env) = eval o X.env)
    (hfew : ((backTo cpos (starEach (e :: es) X.env)).all (fun x => !x.1) && (backToKw cpos (keywordEach [] X.env)).all (fun x => x.1.isSome) && decide ((e :: es).length + ([] : List Keyword).length + (if ([] : List Keyword).isEmpty then 0 else 1) < 30)) = true)
    (hline : (apos.endLine == cpos.line) = true) (hs : starEach (e :: es) X.env = (false, eval e X.env) :: starEach es X.env) (hplain : (backTo cpos (starEach es X.env)).any (·.1) = false) :
    PET X (.Call (.Attribute o name apos) (e :: es) [] cpos) (tBM X.K T r to t) := by
  intro pins s σ H Q h0 I h
  refine wpAny_Call_method_late hbase hfew hline rfl (thn (ho pins s σ H _ h0 I h) fun v s1 ⟨x, H1, I1, r1, ty, q1⟩ => ?_)
  obtain ⟨h1, h2⟩ := tyV_is I1 r1 ty
  refine ⟨T, id, pa, slot, hty, h1, h2, ?_⟩
  have hA := ha.run cpos pins s1 σ H1 _ I1 q1
  rw [hs] at hA ⊢
  refine Calls.callWith_builtin (by show (false || (backTo cpos (starEach es X.env)).any (·.1)) = false; rw [hplain] <;> rfl) (Calls.evalArgs_plain ?_)
  exact thn hA fun us s2 ⟨vs, H2, I2, r2, q2⟩ => hm pins s2 σ H2 x vs v us Q I2 r1 r2 q2
theorem cet_mth {m : Mth} {name : Str} {id : String} {o e : Expr} {es : List Expr} {apos cpos : Pos} {ia : E} {ies : Es} (hm : m ≠ .replace) (slot : PySem.Slot "str" name id) (hty : typeOf (.builtin id) = pure (.type "method_descriptor")) (hr : MtR X id (rMt X.K m)) (ho : CET xs W cl X o ia) (ha : PA X (e :: es) (SRs xs X.K W (evEs cl ies)))
    (hbase : attributeBase o name X.env (eval o X.env) = eval o X.env)
    (hfew : ((backTo cpos (starEach (e :: es) X.env)).all (fun x => !x.1) && (backToKw cpos (keywordEach [] X.env)).all (fun x => x.1.isSome) && decide ((e :: es).length + ([] : List Keyword).length + (if ([] : List Keyword).isEmpty then 0 else 1) < 30)) = true)
    (hline : (apos.endLine == cpos.line) = true) (hs : starEach (e :: es) X.env = (false, eval e X.env) :: starEach es X.env) (hplain : (backTo cpos (starEach es X.env)).any (·.1) = false) :
    CET xs W cl X (.Call (.Attribute o name apos) (e :: es) [] cpos) (.mth m ia ies) :=
  petImp (pet_bm PySem.F.plainAttrs_str slot hty hr ho ha hbase hfew hline hs hplain) fun _ _ _ h => mtRead hm h
theorem cet_op {a b : Expr} {op : Operator} {o : Bop} {ia ib : E} {pos : Pos} (ho : OpR X (binaryOp op) (rBin X.K (binD o))) (ha : CET xs W cl X a ia) (hb : CET xs W cl X b ib) : CET xs W cl X (.BinOp a op b pos) (.bin o ia ib) := by
  refine petImp (pet_op ho ha hb) fun σ H Q => ?_
  rintro ⟨ρ, F, Own, hs, h⟩
  simp only [evE] at h
  refine ⟨ρ, F, Own, hs, (two h).imp fun p _ h => ?_⟩
  intro x H1 s1 r1
  refine ⟨ρ, F, Own, hs.same s1, (h x H1 s1 r1).imp fun q _ h => ?_⟩
  intro y H2 s2 r2
  obtain ⟨h1, h2, s, h⟩ := h y H2 s2 r2
  unfold okK at h
  split at h
  · rename_i d e
    exact ⟨F, p.2, q.2, d, h1, h2, e, fun v H' s' r' => h v H' s' r'.nob⟩
  · exact h.elim

/-! ### e.replace('y', 'z') -/
theorem replS_kit (y z : List Nat) : ∀ (m : Nat) (l : List Nat), Ev.replS y z m l = PySem.StrLaws.replS y z m l
  | _, [] => by unfold Ev.replS PySem.StrLaws.replS; rfl
  | 0, c :: r => by
    unfold Ev.replS PySem.StrLaws.replS
    rw [replS_kit y z (y.length - 1) r, replS_kit y z 0 r]
    simp only [beq_iff_eq] <;> rfl
  | m + 1, _ :: r => by
    unfold Ev.replS PySem.StrLaws.replS
    exact replS_kit y z m r
theorem okS_repl {y z : List Nat} (hz : okS z) : ∀ (m : Nat) (l : List Nat), okS l → okS (Ev.replS y z m l)
  | _, [], _ => by unfold Ev.replS; exact fun _ h => by cases h
  | 0, c :: r, h => by
    have hr : okS r := fun k hk => h k (List.mem_cons_of_mem _ hk)
    unfold Ev.replS
    split
    · exact fun k hk => (List.mem_append.mp hk).elim (hz k) (okS_repl hz _ r hr k)
    · exact fun k hk => (List.mem_cons.mp hk).elim (fun e => e ▸ h c (List.mem_cons_self ..)) (okS_repl hz _ r hr k)
  | m + 1, _ :: r, h => by
    unfold Ev.replS
    exact okS_repl hz m r fun k hk => h k (List.mem_cons_of_mem _ hk)
theorem replRead {ia : E} {y z : Str} (hz : okS z.cps.toList) {σ : L2.St} {H : Hp} {Q : VK} (h : SR xs X.K W (evE cl (.mth .replace ia (.cons false (.cst (.str y.cps.toList)) (.cons false (.cst (.str z.cps.toList)) .nil)))) σ H Q) :
    tReplC (SR xs X.K W (evE cl ia)) y z σ H Q := by
  obtain ⟨ρ, F, Own, hs, h⟩ := h
  simp only [evE] at h
  refine ⟨ρ, F, Own, hs, h.bind.imp fun p _ h => ?_⟩
  intro v H1 s1 r1
  cases e0 : p.2 with
  | str x =>
    have rd := r1.rd
    rw [e0] at rd h
    obtain ⟨rfl, ok⟩ := rd.isStr
    have h : After xs X.K W σ H (okK (mthD .replace (.str x) [.str y.cps.toList, .str z.cps.toList])) _ := h
    simp only [mthD] at h
    split at h
    · rename_i hh
      have yl : y.cps.toList.length = y.length := by simp [Str.length]
      have zl : z.cps.toList.length = z.length := by simp [Str.length]
      refine ⟨toS x, rfl, by rw [toS_len, ← zl]; exact hh.2, ?_⟩
      have e : Txt.replace (toS x) y z = toS (Ev.replS y.cps.toList z.cps.toList 0 x) := by
        have := PySem.StrLaws.replace_list (x := toS x) (y := y) (z := z) (by rw [← yl]; exact hh.1)
        rw [← toS_tl (Txt.replace (toS x) y z), this]
        unfold PySem.StrLaws.replL
        rw [← replS_kit]
      rw [e]
      exact h _ H1 s1 (.str _ (okS_repl hz 0 x ok))
    · exact h.elim
  | _ => rw [e0] at h; exact h.elim

/-! ### expressions that want a token -/
def compRep (f : Expr → Option E) (o : Expr) (apos : Pos) (es : List Expr) (pos : Pos) : Option E :=
  match es with
  | [.Constant (.str y) _ _, .Constant (.str z) _ _] => if okBase o && (apos.endLine == pos.line) && !(y == z) && z.cps.toList.all (fun n => decide (n < 1114112)) then
      (match f o with | some io => some (.mth .replace io (.cons false (.cst (.str y.cps.toList)) (.cons false (.cst (.str z.cps.toList)) .nil))) | none => none) else none
  | _ => none
def compMthT (f fT : Expr → Option E) (o : Expr) (name : Str) (apos : Pos) (es : List Expr) (pos : Pos) : Option E :=
  if !plainB es || es.isEmpty || !okBase o || !(apos.endLine == pos.line) || !decide (es.length < 20) then none
  else match mthN name, fT o, mapA f es with
    | some m, some io, some ies => some (.mth m io ies)
    | _, _, _ => none
def compET : Nat → (Expr → Option E) → Expr → Option E
  | 0, f, e => f e
  | m + 1, f, e => match e with
    | .BinOp a op b _ => (match opB op, compET m f a, compET m f b with | some o, some ia, some ib => some (.bin o ia ib) | _, _, _ => none)
    | .Call (.Attribute o name apos) es [] pos => if name = "replace" then compRep (compET m f) o apos es pos else (match f e with | some ir => some ir | none => compMthT f (compET m f) o name apos es pos)
    | e => f e
theorem compET_ok {f : Expr → Option E} (F : Snd xs W cl X f) : ∀ (m : Nat) (e : Expr) (ir : E), compET m f e = some ir → CET xs W cl X e ir
  | 0, e, ir, h => PET.of (F _ _ h).1
  | m + 1, e, ir, h => by
    have IH := compET_ok F m
    unfold compET at h
    split at h
    · split at h
      · rename_i o ia ib e1 e2 e3
        cases h
        exact cet_op (opB_ok e1) (IH _ _ e2) (IH _ _ e3)
      · cases h
    · rename_i o name apos es pos
      split at h
      · rename_i q
        subst q
        unfold compRep at h
        split at h
        · rename_i y j c0 z k c1
          split at h
          · rename_i hh
            simp only [Bool.and_eq_true, Bool.not_eq_true'] at hh
            split at h
            · rename_i io e1
              cases h
              exact petImp (pet_replT (IH _ _ e1) hh.1.2 rfl (okBase_ok hh.1.1.1) hh.1.1.2) fun _ _ _ q => replRead (fun n hn => of_decide_eq_true (List.all_eq_true.mp hh.2 n hn)) q
            · cases h
          · cases h
        · cases h
      · split at h
        · rename_i ir' e1
          cases h
          exact PET.of (F _ _ e1).1
        · unfold compMthT at h
          split at h
          · cases h
          rename_i hb
          simp only [Bool.or_eq_true, Bool.not_eq_true', not_or, Bool.not_eq_true, Bool.not_eq_false, decide_eq_true_eq] at hb
          obtain ⟨⟨⟨⟨hp, hne⟩, hbase⟩, hline⟩, hlen⟩ := hb
          have hlen : es.length < 20 := by
            have := hlen
            simpa using this
          cases es with
          | nil => cases hne
          | cons e es =>
          obtain ⟨hp1, hp2⟩ := plain_cons hp
          split at h
          · rename_i m' io ies e1 e2 e3
            cases h
            obtain ⟨m1, id, m2, m3, m4⟩ := mth_ok (X := X) e1
            exact cet_mth m1 m2 m3 m4 (IH _ _ e2) (mapA_ok F e3) (okBase_ok hbase) (few_ok hp hlen) hline (star_plain hp1) (plain_any hp2)
          · cases h
    · exact PET.of (F _ _ h).1

/-! ### statements that want a token -/
abbrev CST (xs : Exs) (W : WX) (n : Nat) (cl : Cl) (X : Cx) (st : Stmt) (s : S) : Prop := PST X st (SS xs X.K W n (evS cl s))
abbrev CSsT (xs : Exs) (W : WX) (n : Nat) (cl : Cl) (X : Cx) (st : List Stmt) (s : Ss) : Prop := PSsT X st (SS xs X.K W n (evSs cl s))
theorem cssT_cons {st : Stmt} {sts : List Stmt} {s : S} {r : Ss} (h1 : CST xs W n cl X st s) (h2 : CSsT xs W n cl X sts r) : CSsT xs W n cl X (st :: sts) (.cons s r) := psstImp (psst_cons h1 h2) fun _ _ _ h => seqI h
theorem cst_ret {e : Expr} {ia : E} {pos : Pos} (he : CET xs W cl X e ia) (hv : isVar ia = false) : CST xs W n cl X (.Return (some e) pos) (.ret ia) := by
  refine pstImp (pst_ret he) fun Dn σ H => ?_
  rintro ⟨G, ρ, F, Own, hn, st, h⟩
  simp only [evS] at h
  refine ⟨ρ, F, Own, st.e, (AfS.of st h).imp fun p _ h => ?_⟩
  obtain ⟨k, d⟩ := p
  intro v H' s r
  cases k with
  | v => exact h v σ H' F Own (st.same s) r
  | f =>
    obtain ⟨a, vs, ds, rfl, rfl, q, e1, r1⟩ := r
    exact h _ σ H' F Own (st.same s) ⟨a, vs, ds, rfl, rfl, fun z => st.old a z q, e1, r1⟩
  | b =>
    cases ia with
    | var j => cases hv
    | _ => exact h.elim
theorem cst_if {cc : Expr} {ic : E} {a b : List Stmt} {ia ib : Ss} {pos : Pos} (hc : CT xs W cl X cc ic) (ha : CSsT xs W n cl X a ia) (hb : CSsT xs W n cl X b ib) : CST xs W n cl X (.If cc a b pos) (.ifS ic ia ib) := by
  refine pstImp (pst_if hc ha hb) fun Dn σ H => ?_
  rintro ⟨G, ρ, F, Own, hn, st, h⟩
  simp only [evS] at h
  refine ⟨ρ, F, Own, st.e, (AfS.of st h).imp fun t _ h => ?_⟩
  intro H' s
  cases t with
  | true => exact ⟨G, ρ, F, Own, hn, st.same s, h⟩
  | false => exact ⟨G, ρ, F, Own, hn, st.same s, h⟩
def compST : Nat → CEnv → Nat → Stmt → Option S
  | 0, _, _, _ => none
  | m + 1, c, n, st => match compS 20 c n st with
    | some s => some s
    | none => match st with
      | .Return (some e) _ => (match compET cfuel (comp cfuel c) e with | some ia => if isVar ia then none else some (.ret ia) | none => none)
      | .If t a b _ => (match comp cfuel c t, compSs (compST m c n) a, compSs (compST m c n) b with | some it, some ia, some ib => some (.ifS it ia ib) | _, _, _ => none)
      | _ => none
theorem compSsT_ok {f : Stmt → Option S} (F : ∀ st s, f st = some s → CST xs W n cl X st s) : ∀ {sts : List Stmt} {ss : Ss}, compSs f sts = some ss → CSsT xs W n cl X sts ss
  | [], _, h => by cases h; exact PSsT.of css_nil
  | st :: r, ss, h => by
    simp only [compSs] at h
    split at h
    · rename_i s ss' e1 e2
      cases h
      exact cssT_cons (F _ _ e1) (compSsT_ok F e2)
    · cases h
theorem compST_ok (g : GS xs cl k c X W) : ∀ (m : Nat) (st : Stmt) (s : S), compST m c n st = some s → CST xs W n cl X st s
  | 0, _, _, h => by cases h
  | m + 1, st, s, h => by
    have F := comp_ok (xs := xs) (cl := cl) (k := k) cfuel c X W g.toGX
    unfold compST at h
    split at h
    · rename_i s' e1; cases h; exact PST.of (compS_ok g 20 _ _ e1)
    · split at h
      · split at h
        · rename_i ia e2
          split at h
          · cases h
          · rename_i hv; cases h; exact cst_ret (compET_ok F _ _ _ e2) (Bool.eq_false_iff.mpr hv)
        · cases h
      · split at h
        · rename_i it ia ib e1 e2 e3
          cases h
          exact cst_if (F _ _ e1).2 (compSsT_ok (compST_ok g m) e2) (compSsT_ok (compST_ok g m) e3)
        · cases h
      · cases h
end
section
variable {P : Program} {w : World} {K : PySem.W.Frag} {mg : Str → Option Value} {base : Heap} {xs : Exs}
/-- A DEF that replaces -/
theorem def_okT {x qual : Str} {st : Stmt} {f : Addr} {fd : FuncData} {N ps : List Str} {k : Nat} {c : CEnv} {fn : Fn} {j : Nat} {pr : Prog} (Fu : Fun K x qual st f fd) (S : FnScope N ps (defScope st)) (hcN : c.N = N) (hcs : c.sc = defScope st)
    (hpr : pr j = some fn) (hnp : fn.np = ps.length) (hnio : fn.nio ≤ fn.np) (hns : fn.ns = N.length) (hnc : ∀ y ∈ (defScope st).names, y.2 ≠ .cell) (hps : 1 ≤ ps.length) (hb : compSs (compST 20 c fn.nio) (defBody st) = some fn.body) (T : GT xs (callF pr k) k c P w K mg base) :
    FnOk P w K mg base (L2.CX P w) (k + 1) f fd ps (spD xs K (callF pr (k + 1)) j fn.nio fn.np) := by
  obtain ⟨oc, od, kV, doc, pm, an, cdv, ct, osl, rfl, lk, hcd⟩ := Fu.ex
  refine fn_ofT lk hcd S hnc hps (fun vs H Q E h => by rw [h.1, hnp]) fun A outer s H vs Q E hr h => ⟨SS xs K (fun cls d _ H => E cls d H) fn.nio (evSs (callF pr k) fn.body), ?_, fn_pure hpr hns hnio h⟩
  have g : GS xs (callF pr k) k c (cxOf (L2.CX P w) P w K mg base N qual (defScope st) f cdv A outer s H E) (fun cls d _ H => E cls d H) :=
    { T := T, N := hcN.symm, nd := S.nd, sc := hcs.symm, fk := by rw [hcs]; exact S.kind, calm := rfl, tk := takes_of rfl rfl rfl rfl, room := hr, fn := fun _ _ => rfl, pass := passes_of rfl, stk := rfl, frm := rfl }
  exact compSsT_ok (compST_ok g 20) hb
end
end Ev
end

section
set_option Elab.async false
set_option linter.all false
set_option maxRecDepth 100000
set_option maxHeartbeats 1000000
/-! EvH: a program: its defs, its constants, its errors; every def keeps its promise. -/
namespace Ev
open PySem PySem.Spec L2 PyProof.Rows PySem.EvErr
theorem zip_lookup : ∀ {ps : List Str} {us : List Value}, ps.Nodup → us.length = ps.length → (ps.filterMap fun n => ((ps.zip us).lookup n).map (n, ·)) = ps.zip us ∧ ∀ n ∈ ps, ((ps.zip us).lookup n).isSome = true
  | [], [], _, _ => ⟨rfl, fun _ h => by cases h⟩
  | [], _ :: _, _, h => by simp at h
  | _ :: _, [], _, h => by simp at h
  | p :: ps, u :: us, nd, h => by
    obtain ⟨n1, n2⟩ := List.nodup_cons.mp nd
    obtain ⟨h1, h2⟩ := zip_lookup n2 (by simpa using h)
    have ne : ∀ n ∈ ps, (n == p) = false := fun n hn => by
      rw [beq_eq_false_iff_ne]
      rintro rfl
      exact n1 hn
    refine ⟨?_, fun n hn => ?_⟩
    · rw [List.zip_cons_cons, List.filterMap_cons]
      have e : ((p, u) :: ps.zip us).lookup p = some u := by simp [List.lookup]
      rw [e]
      simp only [Option.map_some]
      congr 1
      have e2 : (ps.filterMap fun n => (((p, u) :: ps.zip us).lookup n).map (n, ·)) = ps.filterMap fun n => ((ps.zip us).lookup n).map (n, ·) := by
        have go : ∀ l : List Str, (∀ n ∈ l, (n == p) = false) → (l.filterMap fun n => (((p, u) :: ps.zip us).lookup n).map (n, ·)) = l.filterMap fun n => ((ps.zip us).lookup n).map (n, ·) := by
          intro l
          induction l with
          | nil => intro _; rfl
          | cons a l ih =>
            intro h
            rw [List.filterMap_cons, List.filterMap_cons, ih fun n hn => h n (List.mem_cons_of_mem _ hn)]
            have := h a (List.mem_cons_self ..)
            simp only [List.lookup, this]
        exact go ps ne
      rw [e2, h1]
    · rcases List.mem_cons.mp hn with rfl | hn
      · simp [List.lookup]
      · rw [List.zip_cons_cons]
        simp only [List.lookup, ne n hn]
        exact h2 n hn
theorem bind_plain {x qual : Str} {as : List Arg} {body : List Stmt} {scope : Scope} {kV doc pm cdv ct : Value} {an : Option Addr} {us : List Value} (nd : (as.map (·.arg)).Nodup) (hl : us.length = (as.map (·.arg)).length) :
    bindArgs (PySem.W.fnOf x qual { posonlyargs := [], args := as, vararg := none, kwonlyargs := [], kw_defaults := [], kwarg := none, defaults := [] } body scope .none kV doc pm an cdv ct) ⟨us, []⟩ = pure ((as.map (·.arg)).zip us) := by
  obtain ⟨h1, h2⟩ := zip_lookup nd hl
  have hm : ((as.map (·.arg)).filter fun n => (((as.map (·.arg)).zip us).lookup n).isNone) = [] := by
    rw [List.filter_eq_nil_iff]
    intro n hn
    have := h2 n hn
    cases e : ((as.map (·.arg)).zip us).lookup n <;> simp_all
  have hlt : ¬ (us.length > (as.map (·.arg)).length) := by omega
  unfold bindArgs
  have hs : notAStandIn Value.none = pure () := by rfl
  simp only [PySem.W.fnOf, List.map_nil, List.nil_append, List.append_nil, seqItems?, pure_bind]
  generalize as.map (·.arg) = ps at *
  simp only [hs, pure_bind, List.forIn_nil, Option.getD_none, List.drop_nil, List.length_nil, Nat.sub_zero, List.take_length, hm, List.isEmpty_nil, List.zip_nil_right, h1, hlt]
  simp [hm, h1, hlt]

/-! ### a def, as the head has it -/
section
variable {P : Program} {w : World} {K : PySem.W.Frag} {mg : Str → Option Value} {base : Heap} {xs : Exs}
theorem def_okD {x qual : Str} {params : Arguments} {body : List Stmt} {scope : Scope} {f : Addr} {fd : FuncData} {N ps : List Str} {k : Nat} {c : CEnv} {fn : Fn} {j : Nat} {pr : Prog} (Fu : FunD K x qual params body scope [] [] f fd) (S : FnScope N ps scope) (hcN : c.N = N) (hcs : c.sc = scope) (hct : c.top = true)
    (hpr : pr j = some fn) (hnp : fn.np = ps.length) (hnio : fn.nio ≤ fn.np) (hns : fn.ns = N.length)
    (hb : compSs (compS 20 c fn.nio) body = some fn.body ∨ (compSs (compST 20 c fn.nio) body = some fn.body ∧ (∀ y ∈ scope.names, y.2 ≠ .cell) ∧ 1 ≤ ps.length)) (T : GT xs (callF pr k) k c P w K mg base) :
    FnOk P w K mg base (L2.CX P w) (k + 1) f fd ps (spD xs K (callF pr (k + 1)) j fn.nio fn.np) := by
  obtain ⟨oc, od, dV, kV, doc, pm, an, cdv, ct, osl, rfl, lk, hcd, _, _⟩ := Fu.ex
  have g : ∀ (A : Around) (outer : List Env) (s : Shared) (H : Hp) (E : XK), Room k (A.deeper (envOfC qual scope s.heap.objs.size f cdv)) → GS xs (callF pr k) k c (cxOf (L2.CX P w) P w K mg base N qual scope f cdv A outer s H E) (fun cls d _ H => E cls d H) := fun A outer s H E hr =>
    { T := T, N := hcN.symm, nd := S.nd, sc := hcs.symm, fk := by rw [hcs]; exact S.kind, calm := rfl, tk := takes_of rfl rfl rfl rfl, room := hr, fn := fun _ _ => rfl, pass := passes_of rfl, stk := rfl, frm := rfl }
  rcases hb with hb | ⟨hb, hnc, hps⟩
  · exact fn_of lk hcd S (fun vs H Q E h => by rw [h.1, hnp]) fun A outer s H vs Q E hr h => ⟨SS xs K (fun cls d _ H => E cls d H) fn.nio (evSs (callF pr k) fn.body), compSs_ok (compS_ok (g A outer s H E hr) 20) hb, fn_pure hpr hns hnio h⟩
  · exact fn_ofT lk hcd S hnc hps (fun vs H Q E h => by rw [h.1, hnp]) fun A outer s H vs Q E hr h => ⟨SS xs K (fun cls d _ H => E cls d H) fn.nio (evSs (callF pr k) fn.body), compSsT_ok (compST_ok (g A outer s H E hr) 20) hb, fn_pure hpr hns hnio h⟩
end

/-! ### a program -/
structure Df where
  name : Str
  params : Arguments
  body : List Stmt
  scope : Scope
structure Pd where
  defs : List Df
  /-- how many lists a def is handed to change -/
  nio : Str → Nat
  /-- the names that comprehensions bind -/
  extras : List Str
  con : List (Str × D)
  errs : List Str
def Df.ps (d : Df) : List Str := d.params.args.map (·.arg)
def Df.locs (d : Df) : List Str := d.ps ++ d.scope.names.filterMap fun y => match y.2 with
  | .local => if d.ps.contains y.1 then none else some y.1
  | .cell => if d.ps.contains y.1 then none else some y.1
  | _ => none
def Pd.N (D : Pd) (d : Df) : List Str := d.locs ++ D.extras.filter fun x => !d.locs.contains x
def fnsFrom (nio : Str → Nat) : Nat → List Df → List (Str × Nat × Nat × Nat)
  | _, [] => []
  | i, d :: r => (d.name, i, nio d.name, d.ps.length) :: fnsFrom nio (i + 1) r
def errsFrom : Nat → List Str → List (Str × Nat)
  | _, [] => []
  | i, x :: r => (x, i) :: errsFrom (i + 1) r
def Pd.cenv (D : Pd) (d : Df) : CEnv := { N := D.N d, sc := d.scope, fns := fnsFrom D.nio 0 D.defs, con := D.con, errs := errsFrom 0 D.errs, top := true }
def Pd.comp (D : Pd) (d : Df) : Option Fn := match compSs (compS 20 (D.cenv d) (D.nio d.name)) d.body with
  | some b => some ⟨d.ps.length, D.nio d.name, (D.N d).length, b⟩
  | none => match compSs (compST 20 (D.cenv d) (D.nio d.name)) d.body with
    | some b => if (d.scope.names.all fun y => match y.2 with | .cell => false | _ => true) && decide (1 ≤ d.ps.length) then some ⟨d.ps.length, D.nio d.name, (D.N d).length, b⟩ else none
    | none => none
def plainA (a : Arguments) : Bool := match a with
  | ⟨[], _, none, [], [], none, []⟩ => true
  | _ => false
def Pd.scB (D : Pd) (d : Df) : Bool := (match d.scope.kind with | .function => true | _ => false) && !d.scope.isCoroutine && !d.scope.isGenerator && decide (D.N d).Nodup && decide ((D.N d).take d.ps.length = d.ps) &&
  (d.ps.all fun x => match d.scope.names.lookup x with | some .local => true | some .cell => true | _ => false) && (d.scope.names.all fun y => match y.2 with | .free => false | _ => true) && plainA d.params && decide (D.nio d.name ≤ d.ps.length)
def prL (l : List Fn) : Prog := fun j => l[j]?
theorem plainA_ok {a : Arguments} (h : plainA a = true) : a = { posonlyargs := [], args := a.args, vararg := none, kwonlyargs := [], kw_defaults := [], kwarg := none, defaults := [] } := by
  unfold plainA at h
  split at h
  · rfl
  · cases h
theorem scB_ok {D : Pd} {d : Df} (h : D.scB d = true) : FnScope (D.N d) d.ps d.scope ∧ plainA d.params = true ∧ D.nio d.name ≤ d.ps.length := by
  unfold Pd.scB at h
  simp only [Bool.and_eq_true, decide_eq_true_eq, Bool.not_eq_true', List.all_eq_true] at h
  obtain ⟨⟨⟨⟨⟨⟨⟨⟨h1, h2⟩, h3⟩, h4⟩, h5⟩, h6⟩, h7⟩, h8⟩, h9⟩ := h
  refine ⟨⟨?_, h2, h3, h4, h5, fun x hx => ?_, fun y hy e => ?_⟩, h8, h9⟩
  · split at h1
    · assumption
    · cases h1
  · have := h6 x hx
    split at this
    · exact .inl (by assumption)
    · exact .inr (by assumption)
    · cases this
  · have := h7 y hy
    rw [e] at this
    cases this
theorem lookup_fns {nio : Str → Nat} {x : Str} {r : Nat × Nat × Nat} : ∀ {l : List Df} {i : Nat}, (fnsFrom nio i l).lookup x = some r → ∃ (j : Nat) (d : Df), l[j]? = some d ∧ d.name = x ∧ r = (i + j, nio x, d.ps.length)
  | [], _, h => by cases h
  | d :: l, i, h => by
    simp only [fnsFrom, List.lookup_cons] at h
    split at h
    · rename_i e
      have e : x = d.name := by simpa using e
      subst e
      cases h
      exact ⟨0, d, rfl, rfl, rfl⟩
    · obtain ⟨j, d', h1, h2, h3⟩ := lookup_fns h
      exact ⟨j + 1, d', by simpa using h1, h2, by rw [h3]; simp; omega⟩
theorem lookup_errs {x : Str} {r : Nat} : ∀ {l : List Str} {i : Nat}, (errsFrom i l).lookup x = some r → ∃ j : Nat, l[j]? = some x ∧ r = i + j
  | [], _, h => by cases h
  | y :: l, i, h => by
    simp only [errsFrom, List.lookup_cons] at h
    split at h
    · rename_i e
      have e : x = y := by simpa using e
      subst e
      cases h
      exact ⟨0, rfl, rfl⟩
    · obtain ⟨j, h1, h2⟩ := lookup_errs h
      exact ⟨j + 1, by simpa using h1, by omega⟩

/-! ### what the head is asked -/
def nats (l : List Nat) : Bool := l.all fun n => decide (n < 1114112)
mutual
/-- a value of the written part stands for data -/
def vB (K : PySem.W.Frag) : D → Value → Bool
  | .non, .none => true
  | .bl b, .bool c => b == c
  | .int i, .int j _ => decide (i = j)
  | .str s, .str y _ => decide (y.cps.toList = s) && nats s
  | .tup ds, .ref a => (match K.lookup a with
      | some ⟨.type c, _, .seq its _, _⟩ => decide (c = "tuple") && (decide (its.size ≤ sizeLine) && vsB K ds its.toList)
      | _ => false)
  | _, _ => false
def vsB (K : PySem.W.Frag) : List D → List Value → Bool
  | [], [] => true
  | d :: ds, u :: us => vB K d u && vsB K ds us
  | _, _ => false
end
mutual
theorem vB_ok {K : PySem.W.Frag} : ∀ {d : D} {u : Value}, vB K d u = true → ∃ v, RelV v u ∧ ∀ H F, RepV K H F d v
  | .non, u, h => by cases u <;> first | exact ⟨.non, rfl, fun _ _ => .non⟩ | cases h
  | .bl b, u, h => by
    cases u <;> try (cases h; done)
    rename_i c
    have e : b = c := by simpa [vB] using h
    subst e
    exact ⟨.bl b, rfl, fun _ _ => .bl b⟩
  | .int i, u, h => by
    cases u <;> try (cases h; done)
    rename_i j t
    have e : i = j := by simpa [vB] using h
    subst e
    exact ⟨.int i, ⟨t, rfl⟩, fun _ _ => .int i⟩
  | .str s, u, h => by
    cases u <;> try (cases h; done)
    rename_i y t
    simp only [vB, Bool.and_eq_true, decide_eq_true_eq] at h
    obtain ⟨rfl, ok⟩ := h
    refine ⟨.str y, ⟨t, rfl⟩, fun _ _ => ?_⟩
    rename_i H F
    have r : RepV K H F (.str y.cps.toList) (.str (toS y.cps.toList)) := .str _ fun n hn => of_decide_eq_true (List.all_eq_true.mp ok n hn)
    rw [toS_tl] at r
    exact r
  | .tup ds, u, h => by
    cases u <;> try (cases h; done)
    rename_i a
    simp only [vB] at h
    cases q : K.lookup a with
    | none => rw [q] at h; cases h
    | some o =>
      obtain ⟨oc, od, dt, osl⟩ := o
      rw [q] at h
      cases oc with
      | type c =>
        cases dt with
        | seq its n =>
          simp only [Bool.and_eq_true, decide_eq_true_eq] at h
          obtain ⟨rfl, hz, hv⟩ := h
          obtain ⟨vs, r1, r2⟩ := vsB_ok hv
          exact ⟨.ref a, rfl, fun H F => .tup (.inr ⟨_, its, n, q, rfl, rfl, hz, r1⟩) (r2 H F)⟩
        | _ => cases h
      | _ => cases h
  | .lst _, u, h => by cases u <;> cases h
  | .scr _, u, h => by cases u <;> cases h
theorem vsB_ok {K : PySem.W.Frag} : ∀ {ds : List D} {us : List Value}, vsB K ds us = true → ∃ vs, Vals vs us ∧ ∀ H F, RepVs K H F ds vs
  | [], [], _ => ⟨[], .nil, fun _ _ => .nil⟩
  | [], _ :: _, h => by cases h
  | _ :: _, [], h => by cases h
  | d :: ds, u :: us, h => by
    simp only [vsB, Bool.and_eq_true] at h
    obtain ⟨v, r1, r2⟩ := vB_ok h.1
    obtain ⟨vs, r3, r4⟩ := vsB_ok h.2
    exact ⟨v :: vs, .cons r1 r3, fun H F => .cons (r2 H F) (r4 H F)⟩
end
def conB (K : PySem.W.Frag) (p : Str × D) : Bool := match PySem.W.nsIn K mainGlobals p.1 with
  | some (some u) => vB K p.2 u
  | _ => false
/-- an own error's class -/
def errCls (K : PySem.W.Frag) (C : Addr) : Bool := match K.lookup C with
  | some ⟨.type "type", _, .cls cd, sl⟩ => (match cd.mro, sl.toList with
    | .ref C' :: bm, [_, _, _, _, some (.builtin n), _] => C' == C && n == "Exception.__new__" && !cd.hasDel && cd.hasDict && PySem.W.excTail bmE bm
    | _, _ => false)
  | _ => false
def errB (K : PySem.W.Frag) (x : Str) : Bool := errCls K (He.ga K x) && He.eqO (PySem.W.findIn K (.ref (He.ga K x)) "__setattr__") (some (some (.builtin "object.__setattr__"))) && He.eqO (PySem.W.findIn K (.ref (He.ga K x)) "__getattribute__") (some (some (.builtin "BaseException.__getattribute__"))) &&
  He.eqO (PySem.W.findIn K (.ref (He.ga K x)) "__getattr__") (some none) && He.eqO (PySem.W.findIn K (.ref (He.ga K x)) "at") (some none) && He.eqO (PySem.W.findIn K (.ref (He.ga K x)) "__init__") (some (some (.ref (He.ma K (He.ga K x) "__init__")))) &&
  decide (PySem.W.typeIn K (.ref (He.ma K (He.ga K x) "__init__")) = some (.type "function")) && PySem.W.keepIn K (.ref (He.ga K x)) && decide (PySem.W.subIn K (.ref (He.ga K x)) (.type "BaseException") = some true) && decide (PySem.W.typeIn K (.ref (He.ga K x)) = some (.type "type")) && PySem.W.hasDictIn K (He.ga K x)
def exmB (K : PySem.W.Frag) (l : List Str) : Bool := (List.range l.length).all fun z => (List.range l.length).all fun y => match l[z]?, l[y]? with
  | some a, some b => decide (PySem.W.exmOne K (.ref (He.ga K a)) (.ref (He.ga K b)) = some (decide (z = y)))
  | _, _ => true
def Pd.ex (D : Pd) (K : PySem.W.Frag) : Bool := D.con.all (conB K) && D.errs.all (errB K) && exmB K D.errs
def iParams (p1 p2 : Pos) : Arguments := iA p1 p2
/-- an own error's __init__, as a def -/
def initD (nm qn : Str) (ps : Pos × Pos × Pos × Pos × Pos × Pos) : He.DefD := ⟨(nm, some "__init__"), "__init__", qn, iA ps.1 ps.2.1, iB ps.2.2.1 ps.2.2.2.1 ps.2.2.2.2.1 ps.2.2.2.2.2, iS, [], []⟩
def Df.dD (d : Df) : He.DefD := ⟨(d.name, none), d.name, d.name, d.params, d.body, d.scope, [], []⟩
def blt9 : List Str := ["len", "int", "str", "any", "tuple", "isinstance", "range", "bool", "list"]
def Pd.fa (D : Pd) : List He.Fa := D.defs.map (fun d => He.Fa.glo d.name) ++ D.errs.map He.Fa.glo ++ blt9.map He.Fa.free
def Pd.xs (D : Pd) (K : PySem.W.Frag) : Exs := fun i => match D.errs[i]? with | some x => some (He.ga K x, true) | none => none
section
variable {P : Program} {w : World} {K : PySem.W.Frag} {mg : Str → Option Value} {base h : Heap}
theorem errCls_ok {C : Addr} (q : errCls K C = true) : ∃ nm' q N bs bm sn sub ab col dd k0 k1 k2 k3 k5, K.lookup C = some (excClassObj nm' q C N bs bm true sn sub ab col dd k0 k1 k2 k3 k5 "Exception.__new__") ∧ PySem.W.excTail bmE bm = true := by
  unfold errCls at q
  split at q
  · rename_i dd cd sl ho
    split at q
    · rename_i C' bm k0 k1 k2 k3 n k5 hm hs
      simp only [Bool.and_eq_true, beq_iff_eq, Bool.not_eq_true'] at q
      obtain ⟨⟨⟨⟨rfl, rfl⟩, hdel⟩, hdict⟩, ht⟩ := q
      obtain ⟨nm, bs, mro, ns, qn, hd, sn, sub, ab, col, del⟩ := cd
      dsimp only at hm hdel hdict
      subst hm hdel hdict
      have hsl : sl = #[k0, k1, k2, k3, some (.builtin "Exception.__new__"), k5] := by
        obtain ⟨l⟩ := sl
        simp only at hs
        rw [hs]
      subst hsl
      exact ⟨nm, qn, ns, bs, bm, sn, sub, ab, col, dd, k0, k1, k2, k3, k5, ho, ht⟩
    · cases q
  · cases q
theorem errB_ok (X : K.In h) (G : h.Ns mainGlobals mg) {x qn : Str} {ps : Pos × Pos × Pos × Pos × Pos × Pos} (hg : mg x = some (.ref (He.ga K x))) (q : errB K x = true) (hi : ∃ fd, FunD K "__init__" qn (iA ps.1 ps.2.1) (iB ps.2.2.1 ps.2.2.2.1 ps.2.2.2.2.1 ps.2.2.2.2.2) iS [] [] (He.fAd K (x, some "__init__")) fd) :
    ErrTxt K mg x (He.ga K x) (He.ma K (He.ga K x) "__init__") := by
  unfold errB at q
  simp only [Bool.and_eq_true, decide_eq_true_eq] at q
  obtain ⟨⟨⟨⟨⟨⟨⟨⟨⟨⟨q1, q2⟩, q3⟩, q4⟩, q5⟩, q6⟩, q7⟩, q8⟩, q9⟩, q10⟩, q11⟩ := q
  refine ⟨hg, errCls_ok q1, He.eqO_ok q2, He.eqO_ok q3, He.eqO_ok q4, He.eqO_ok q5, He.eqO_ok q6, q7, q8, q9, q10, q11, ?_⟩
  obtain ⟨fd, F⟩ := hi
  obtain ⟨oc, od, dV, kV, doc, pm, an, cdv, ct, osl, rfl, lk, hcd, hD, hK⟩ := F.ex
  obtain rfl : dV = .none := by
    rcases hD with ⟨_, z⟩ | ⟨z, _⟩
    · exact z
    · exact absurd rfl z
  exact ⟨qn, oc, od, kV, doc, pm, an, cdv, ct, osl, _, _, _, _, _, _, lk, hcd⟩

/-- what is known of the written part -/
structure Says (D : Pd) (K : PySem.W.Frag) (mg : Str → Option Value) : Prop where
  glo : ∀ d ∈ D.defs, mg d.name = some (.ref (He.ga K d.name))
  fn : ∀ d ∈ D.defs, ∃ fd, FunD K d.name d.name d.params d.body d.scope [] [] (He.fAd K (d.name, none)) fd
  con : ∀ x d, D.con.lookup x = some d → ∃ u v, mg x = some u ∧ RelV v u ∧ ∀ H F, RepV K H F d v
  err : ∀ x ∈ D.errs, ErrTxt K mg x (He.ga K x) (He.ma K (He.ga K x) "__init__")
  exm : ∀ (z y : Nat) (a b : Str), D.errs[z]? = some a → D.errs[y]? = some b → PySem.W.exmOne K (.ref (He.ga K a)) (.ref (He.ga K b)) = some (decide (z = y))
  blt : ∀ x ∈ blt9, mg x = none
theorem says_of {D : Pd} {ts : List He.Tab} {tf : List He.Defn} {inits : List (Str × Str × (Pos × Pos × Pos × Pos × Pos × Pos))} (X : K.In h) (G : h.Ns mainGlobals mg) (c : He.SaysX D.fa (D.defs.map Df.dD ++ inits.map fun p => initD p.1 p.2.1 p.2.2) ts tf D.ex w h K) (hi : inits.map (·.1) = D.errs) : Says D K mg := by
  have hex := c.more
  unfold Pd.ex at hex
  simp only [Bool.and_eq_true, List.all_eq_true] at hex
  obtain ⟨⟨e1, e2⟩, e3⟩ := hex
  have fact : ∀ f ∈ D.fa, f.ok K = true := fun f hf => He.SaysD.facts c.t.d hf
  have dfs : ∀ d ∈ D.defs, ∃ fd, FunD K d.name d.name d.params d.body d.scope [] [] (He.fAd K (d.name, none)) fd := fun d hd => by
    have := He.SaysD.defs c.t.d (d := d.dD) (List.mem_append_left _ (List.mem_map_of_mem hd))
    exact this
  have gl : ∀ x ∈ D.errs, mg x = some (.ref (He.ga K x)) := fun x hx => He.glo_ok X G (fact _ (by
    unfold Pd.fa
    exact List.mem_append_left _ (List.mem_append_right _ (List.mem_map_of_mem hx))))
  refine ⟨fun d hd => He.glo_ok X G (fact _ (by
    unfold Pd.fa
    exact List.mem_append_left _ (List.mem_append_left _ (List.mem_map_of_mem (f := fun d : Df => He.Fa.glo d.name) hd)))), dfs, fun x d hx => ?_, fun x hx => ?_, fun z y a b ha hb => ?_, fun x hx => He.free_ok X G (fact _ (by
    unfold Pd.fa
    exact List.mem_append_right _ (List.mem_map_of_mem hx)))⟩
  · have := e1 (x, d) (PySem.mem_of_lookup hx)
    unfold conB at this
    split at this
    · rename_i u q
      obtain ⟨v, r1, r2⟩ := vB_ok this
      exact ⟨u, v, PySem.W.mg_of X G q, r1, r2⟩
    · cases this
  · have hx' := hx
    rw [← hi] at hx'
    obtain ⟨p, hp, rfl⟩ := List.mem_map.mp hx'
    have := He.SaysD.defs c.t.d (d := initD p.1 p.2.1 p.2.2) (List.mem_append_right _ (List.mem_map_of_mem (f := fun p : Str × Str × (Pos × Pos × Pos × Pos × Pos × Pos) => initD p.1 p.2.1 p.2.2) hp))
    exact errB_ok X G (gl _ hx) (e2 _ hx) this
  · unfold exmB at e3
    simp only [List.all_eq_true, List.mem_range] at e3
    have := e3 z (lt_of_get ha) y (lt_of_get hb)
    rw [ha, hb] at this
    exact of_decide_eq_true this
theorem fn_zero {cl : Cl} {xs : Exs} {k : Nat} {f : Addr} {fd : FuncData} {ps : List Str} {j nio : Nat} (h : ∀ ds, cl j ds = .stuck) : FnOk P w K mg base (L2.CX P w) k f fd ps (spD xs K cl j nio ps.length) := by
  refine ⟨fun vs H Q E h => h.1, fun A outer s H args us vs Q E hr e0 hb r hsp => ?_⟩
  obtain ⟨_, ds, F, os, _, _, _, _, q⟩ := hsp
  rw [h ds] at q
  exact q.elim
/-- EVERY DEF keeps its promise, at every depth -/
theorem all_ok {D : Pd} {prT : List Fn} (hc : D.defs.map D.comp = prT.map some) (hs : D.defs.all D.scB = true) (Y : Says D K mg) : ∀ (k j : Nat) (d : Df), D.defs[j]? = some d → ∀ fd, FunD K d.name d.name d.params d.body d.scope [] [] (He.fAd K (d.name, none)) fd →
    FnOk P w K mg base (L2.CX P w) k (He.fAd K (d.name, none)) fd d.ps (spD (D.xs K) K (callF (prL prT) k) j (D.nio d.name) d.ps.length)
  | 0, j, d, hd, fd, F => fn_zero fun ds => rfl
  | k + 1, j, d, hd, fd, F => by
    have sc := scB_ok (List.all_eq_true.mp hs d (List.mem_of_getElem? hd))
    have hpr : ∃ fn, prT[j]? = some fn ∧ D.comp d = some fn := by
      have e : (D.defs.map D.comp)[j]? = (prT.map some)[j]? := by rw [hc]
      rw [List.getElem?_map, List.getElem?_map, hd] at e
      cases q : prT[j]? with
      | none => rw [q] at e; cases e
      | some fn => rw [q] at e; exact ⟨fn, rfl, by simpa using e⟩
    obtain ⟨fn, hp1, hp2⟩ := hpr
    have T : GT (D.xs K) (callF (prL prT) k) k (D.cenv d) P w K mg base := by
      refine ⟨fun x j' nio np h => ?_, fun x d' h => Y.con x d' h, fun x y h => ?_, Y.blt⟩
      · obtain ⟨jj, d', h1, rfl, h3⟩ := lookup_fns h
        have m := List.mem_of_getElem? h1
        obtain ⟨fd', F'⟩ := Y.fn d' m
        have sc' := scB_ok (List.all_eq_true.mp hs d' m)
        have e : j' = jj ∧ nio = D.nio d'.name ∧ np = d'.ps.length := by
          simp only [Prod.mk.injEq] at h3
          exact ⟨by omega, h3.2.1, h3.2.2⟩
        obtain ⟨rfl, rfl, rfl⟩ := e
        refine ⟨_, fd', d'.ps, all_ok hc hs Y k j' d' h1 fd' F', Y.glo d' m, F'.kp, ?_⟩
        have ndp : d'.ps.Nodup := by rw [← sc'.1.pre]; exact sc'.1.nd.sublist (List.take_sublist _ _)
        have ep := plainA_ok sc'.2.1
        refine F'.bindsN fun kV doc pm an cdv ct us hl => ?_
        rw [ep]
        exact bind_plain ndp hl
      · obtain ⟨jj, h1, h2⟩ := lookup_errs h
        have ey : y = jj := by omega
        subst ey
        refine ⟨_, _, Y.err x (List.mem_of_getElem? h1), by unfold Pd.xs; rw [h1], fun z Cz b hz => ?_⟩
        unfold Pd.xs at hz
        cases q : D.errs[z]? with
        | none => rw [q] at hz; cases hz
        | some a =>
          rw [q] at hz
          cases hz
          exact Y.exm z y a x q h1
    have hfn : fn.np = d.ps.length ∧ fn.nio = D.nio d.name ∧ fn.ns = (D.N d).length ∧ (compSs (compS 20 (D.cenv d) fn.nio) d.body = some fn.body ∨ (compSs (compST 20 (D.cenv d) fn.nio) d.body = some fn.body ∧ (∀ y ∈ d.scope.names, y.2 ≠ .cell) ∧ 1 ≤ d.ps.length)) := by
      unfold Pd.comp at hp2
      split at hp2
      · rename_i b e1
        cases hp2
        exact ⟨rfl, rfl, rfl, .inl e1⟩
      · split at hp2
        · rename_i b e1
          split at hp2
          · rename_i hh
            simp only [Bool.and_eq_true, decide_eq_true_eq, List.all_eq_true] at hh
            cases hp2
            refine ⟨rfl, rfl, rfl, .inr ⟨e1, fun y hy e => ?_, hh.2⟩⟩
            have := hh.1 y hy
            rw [e] at this
            cases this
          · cases hp2
        · cases hp2
    obtain ⟨f1, f2, f3, f4⟩ := hfn
    have := def_okD (P := P) (w := w) (mg := mg) (base := base) (k := k) (c := D.cenv d) (fn := fn) (j := j) (pr := prL prT) F sc.1 rfl rfl rfl hp1 f1 (by rw [f1, f2]; exact sc.2.2) f3 f4 T
    rw [f1, f2] at this
    exact this
/-- nothing is let out: the plain way -/
theorem fn_cx0 {k : Nat} {f : Addr} {fd : FuncData} {ps : List Str} {sp sp' : Sp} (F : FnOk P w K mg base (L2.CX P w) k f fd ps sp) (hh : ∀ vs H Q E, sp' vs H Q E → sp vs H Q fun _ _ _ => False) : FnOk P w K mg base CX0 k f fd ps sp' := by
  refine ⟨fun vs H Q E h => F.len _ _ _ _ (hh _ _ _ _ h), fun A outer s H args us vs Q E hr e0 hb r hsp => ?_⟩
  refine codeAny_mono (F.run A outer s H args us vs Q _ hr e0 hb r (hh _ _ _ _ hsp)) fun r s' hq => ?_
  cases r with
  | error e =>
    obtain ⟨_, _, _, _, _, _, _, _, _, _, _, _, z⟩ := hq
    exact z.elim
  | ok fl => cases fl <;> exact hq
def spLaw (K : PySem.W.Frag) (n : Nat) : Sp := fun vs H Q _ => ∃ (a : Addr) (ns : List Int), vs = [.ref a] ∧ ns.length ≤ n ∧ ScrAt K H a ns ∧ ∀ v H', v = .bl true → Q v H'
theorem law_sp {xs : Exs} {cl : Cl} {j n : Nat} (h : ∀ ns : List Int, ns.length ≤ n → ∃ k, cl j [.scr ns] = .ok (k, .bl true, [])) : ∀ vs H Q E, spLaw K n vs H Q E → spD xs K cl j 0 1 vs H Q fun _ _ _ => False := by
  rintro vs H Q E ⟨a, ns, rfl, hl, hs, hq⟩
  obtain ⟨k, hk'⟩ := h ns hl
  refine ⟨rfl, [.scr ns], fun _ => False, [], .nil (.cons (.scr hs) .nil), List.nodup_nil, by simp, fun _ z => z.elim, ?_⟩
  rw [hk']
  intro v H' kp r _
  refine hq v H' ?_
  cases k with
  | v => exact RdD.isBl (RepV.rd (show RepV K H' (fun _ => False) (.bl true) v from r))
  | f =>
    obtain ⟨_, _, _, e, _⟩ := r
    cases e
  | b =>
    obtain ⟨_, _, _, e, _⟩ := r
    cases e
end
end Ev
end

section
set_option linter.all false
set_option maxRecDepth 100000
/-! EvSim: what the small language's words come to, as rules for simp. -/
namespace Ev
section
variable {cl : Cl} {ρ : List Slot} {α β : Type}
@[simp] theorem b_ok (a : α) (f : α → R β) : (R.ok a).bind f = f a := rfl
@[simp] theorem b_exn (x : Nat) (a : D) (f : α → R β) : (R.exn x a : R α).bind f = .exn x a := rfl
@[simp] theorem b_st (f : α → R β) : (R.stuck : R α).bind f = .stuck := rfl
@[simp] theorem q_ok (a : α) : (R.ok a).quiet = .ok a := rfl
@[simp] theorem o_ok (a : α) (f : α → Out) : Out.of (R.ok a) f = f a := rfl
@[simp] theorem o_exn (x : Nat) (a : D) (f : α → Out) : Out.of (R.exn x a : R α) f = .exn x a := rfl
@[simp] theorem o_st (f : α → Out) : Out.of (R.stuck : R α) f = .stuck := rfl
@[simp] theorem e_var (i : Nat) : evE cl (.var i) ρ = getV ρ i := rfl
@[simp] theorem e_cst (d : D) : evE cl (.cst d) ρ = .ok (.v, d) := rfl
@[simp] theorem e_nope : evE cl .nope ρ = .ok (.v, .non) := rfl
@[simp] theorem e_bin (o : Bop) (a b : E) : evE cl (.bin o a b) ρ = (evE cl a ρ).bind fun p => (evE cl b ρ).bind fun q => okK (binD o p.2 q.2) := rfl
@[simp] theorem e_neg (a : E) : evE cl (.neg a) ρ = (evE cl a ρ).bind fun p => match p.2 with | .int i => .ok (.v, .int (-i)) | _ => .stuck := rfl
@[simp] theorem e_cmp (o : Cop) (a b : E) : evE cl (.cmp o a b) ρ = (evE cl a ρ).bind fun p => (evE cl b ρ).bind fun q => match cmpD o p.2 q.2 with | some r => .ok (.v, .bl r) | none => .stuck := rfl
@[simp] theorem e_chn (o o' : Cop) (a b c : E) : evE cl (.chn o o' a b c) ρ = (evE cl a ρ).bind fun p => (evE cl b ρ).bind fun q => match cmpD o p.2 q.2 with
      | some true => (evE cl c ρ).bind fun r => (match cmpD o' q.2 r.2 with | some t => .ok (.v, .bl t) | none => .stuck)
      | some false => .ok (.v, .bl false)
      | none => .stuck := rfl
@[simp] theorem e_and (a b : E) : evE cl (.and a b) ρ = (evE cl a ρ).bind fun p => match truthD p.2 with | some true => evE cl b ρ | some false => .ok p | none => .stuck := rfl
@[simp] theorem e_or (a b : E) : evE cl (.or a b) ρ = (evE cl a ρ).bind fun p => match truthD p.2 with | some true => .ok p | some false => evE cl b ρ | none => .stuck := rfl
@[simp] theorem e_not (a : E) : evE cl (.not a) ρ = (evE cl a ρ).bind fun p => match truthD p.2 with | some b => .ok (.v, .bl (!b)) | none => .stuck := rfl
@[simp] theorem e_ite (c a b : E) : evE cl (.ite c a b) ρ = (evE cl c ρ).bind fun p => match truthD p.2 with | some true => evE cl a ρ | some false => evE cl b ρ | none => .stuck := rfl
@[simp] theorem e_tup (es : Es) : evE cl (.tup es) ρ = (evEs cl es ρ).bind fun ps => match solid ps with | some ds => if ds.length ≤ szl then .ok (.v, .tup ds) else .stuck | none => .stuck := rfl
@[simp] theorem e_lst (es : Es) : evE cl (.lst es) ρ = (evEs cl es ρ).bind fun ps => match solid ps with | some ds => if ds.length ≤ szl then .ok (.f, .lst ds) else .stuck | none => .stuck := rfl
@[simp] theorem e_idx (a i : E) : evE cl (.idx a i) ρ = (evE cl a ρ).bind fun p => (evE cl i ρ).bind fun q => okV (idxD p.2 q.2) := rfl
@[simp] theorem e_slc (a lo hi : E) : evE cl (.slc a lo hi) ρ = (evE cl a ρ).bind fun p => (evE cl lo ρ).bind fun q => match partOf lo q.2 with
      | some l => (evE cl hi ρ).bind fun r => (match partOf hi r.2 with
          | some h => okK (slcD p.2 l h)
          | none => .stuck)
      | none => .stuck := rfl
@[simp] theorem e_call (f : Nat) (es : Es) : evE cl (.call f es) ρ = (evEs cl es ρ).bind fun ps => (cl f (ps.map (·.2))).bind fun r => afterCall (hasB ps) r := rfl
@[simp] theorem e_blt (o : Blt) (es : Es) : evE cl (.blt o es) ρ = (evEs cl es ρ).bind fun ps => okV (bltD o (ps.map (·.2))) := rfl
@[simp] theorem e_isi (a : E) (ts : List Ty) : evE cl (.isi a ts) ρ = (evE cl a ρ).bind fun p => if isScr p.2 then .stuck else .ok (.v, .bl (ts.any fun t => isiD p.2 t)) := rfl
@[simp] theorem e_mth (m : Mth) (a : E) (es : Es) : evE cl (.mth m a es) ρ = (evE cl a ρ).bind fun p => if isStrD p.2 then (evEs cl es ρ).bind fun ps => okK (mthD m p.2 (ps.map (·.2))) else .stuck := rfl
@[simp] theorem es_nil : evEs cl .nil ρ = .ok [] := rfl
@[simp] theorem es_cons (s : Bool) (e : E) (r : Es) : evEs cl (.cons s e r) ρ = (evE cl e ρ).bind fun p => match starL s p with | some here => (evEs cl r ρ).bind fun ps => .ok (here ++ ps) | none => .stuck := rfl
@[simp] theorem m_e (a : E) : evM cl (.e a) ρ = (evE cl a ρ).bind fun p => .ok (p, ρ) := rfl
@[simp] theorem m_pop (i : Nat) : evM cl (.pop i) ρ = match ρ[i]? with
      | some (.own (.lst ds)) => match ds.getLast? with
          | some d => .ok ((.v, d), ρ.set i (.own (.lst ds.dropLast)))
          | none => .stuck
      | _ => .stuck := rfl
@[simp] theorem m_call1 (f : Nat) (m : M) : evM cl (.call1 f m) ρ = (evM cl m ρ).bind fun q => match q.1.1 with
      | .v => (cl f [q.1.2]).bind fun r => (afterCall false r).bind fun p => .ok (p, q.2)
      | _ => .stuck := rfl
@[simp] theorem m_tup3 (a : E) (m : M) (c : E) : evM cl (.tup3 a m c) ρ = (evE cl a ρ).bind fun p => match p.1 with
      | .v => (evM cl m ρ).bind fun q => (match q.1.1 with
          | .v => (evE cl c q.2).bind fun r => (match r.1 with
              | .v => .ok ((.v, .tup [p.2, q.1.2, r.2]), q.2)
              | _ => .stuck)
          | _ => .stuck)
      | _ => .stuck := rfl
@[simp] theorem s_pass : evS cl .pass ρ = .nx ρ := rfl
@[simp] theorem s_asg (tg : Tg) (a : E) : evS cl (.asg tg a) ρ = .of (evE cl a ρ) fun p => match sinkE a p ρ with
      | some (k, d, ρ') => (match bindTg tg k d ρ' with | some ρ'' => .nx ρ'' | none => .stuck)
      | none => .stuck := rfl
@[simp] theorem s_asgM (i : Nat) (m : M) : evS cl (.asgM i m) ρ = .of (evM cl m ρ) fun q => match sinkM m q.1 q.2 with
      | some (k, d, ρ') => (match bindTg (.one i) k d ρ' with | some ρ'' => .nx ρ'' | none => .stuck)
      | none => .stuck := rfl
@[simp] theorem s_aug (i : Nat) (o : Bop) (a : E) : evS cl (.aug i o a) ρ = match ρ[i]? with
      | some (.val x) => .of (evE cl a ρ) fun p => (match augD o x p.2 with | some d => .nx (ρ.set i (.val d)) | none => .stuck)
      | _ => .stuck := rfl
@[simp] theorem s_expr (a : E) : evS cl (.expr a) ρ = .of (evE cl a ρ) fun _ => .nx ρ := rfl
@[simp] theorem s_app (i : Nat) (m : M) : evS cl (.app i m) ρ = if (getOwn ρ i).isSome then .of (evM cl m ρ) fun q => (match sinkM m q.1 q.2 with
      | some (_, d, ρ') => (match getOwn ρ' i with | some ds => if ds.length < szl then .nx (ρ'.set i (.own (.lst (ds ++ [d])))) else .stuck | none => .stuck)
      | none => .stuck) else .stuck := rfl
@[simp] theorem s_ext (i : Nat) (a : E) : evS cl (.ext i a) ρ = match getOwn ρ i with
      | some ds => .of (evE cl a ρ) fun p => (match listOf p.2 with
          | some es => if ds.length + es.length ≤ szl then .nx (ρ.set i (.own (.lst (ds ++ es)))) else .stuck
          | none => .stuck)
      | none => .stuck := rfl
@[simp] theorem s_popS (i : Nat) : evS cl (.popS i) ρ = .of (evM cl (.pop i) ρ) fun q => .nx q.2 := rfl
@[simp] theorem s_io (f : Nat) (is : List Nat) (es : Es) : evS cl (.io f is es) ρ = if is.Nodup then (match getOwns ρ is with
      | some os => .of (evEs cl es ρ) fun ps => (match solid ps with
          | some ds => .of (cl f (os ++ ds)) fun r => if r.2.2.length = is.length then .nx (setOwns ρ is r.2.2) else .stuck
          | none => .stuck)
      | none => .stuck) else .stuck := rfl
@[simp] theorem s_if (c : E) (a b : Ss) : evS cl (.ifS c a b) ρ = .of (truthR (evE cl c ρ)) fun t => if t then evSs cl a ρ else evSs cl b ρ := rfl
/-- a while's turns -/
def loopW (cl : Cl) (c : E) (b : Ss) (n : Nat) (ρ : List Slot) : Out := whlGo (fun ρ => truthR (evE cl c ρ)) (fun ρ => evSs cl b ρ) n ρ
theorem loopW_succ (c : E) (b : Ss) (n : Nat) : loopW cl c b (n + 1) ρ = .of (truthR (evE cl c ρ)) fun t => if t then (match evSs cl b ρ with
      | .nx ρ' => loopW cl c b n ρ'
      | .ct ρ' => loopW cl c b n ρ'
      | .bk ρ' => .nx ρ'
      | o => o) else .nx ρ := rfl
/-- a for's turns -/
def loopF (cl : Cl) (tg : Tg) (b : Ss) (ds : List D) (ρ : List Slot) : Out := forGo (fun d ρ => match setTg tg d ρ with | some ρ' => evSs cl b ρ' | none => .stuck) ds ρ
@[simp] theorem loopF_nil (tg : Tg) (b : Ss) : loopF cl tg b [] ρ = .nx ρ := rfl
theorem loopF_cons (tg : Tg) (b : Ss) (d : D) (ds : List D) : loopF cl tg b (d :: ds) ρ = match (match setTg tg d ρ with | some ρ' => evSs cl b ρ' | none => .stuck) with
      | .nx ρ' => loopF cl tg b ds ρ'
      | .ct ρ' => loopF cl tg b ds ρ'
      | .bk ρ' => .bk ρ'
      | o => o := rfl
/-- a comprehension's turn, turns -/
def stepC (cl : Cl) (own : List Nat) (tg : Tg) (c e : E) (ρ : List Slot) (d : D) : R (Option D) := match setTg tg d (wipeS ρ own) with
          | some ρ' => (truthR (evE cl c ρ')).bind fun b => if b then ((evE cl e ρ').bind fun p => match p.1 with | .b => .stuck | _ => .ok (some p.2)) else .ok none
          | none => .stuck
def loopC (cl : Cl) (own : List Nat) (tg : Tg) (c e : E) (ρ : List Slot) (ds : List D) : R (List D) := lcGo (stepC cl own tg c e ρ) ds
@[simp] theorem loopC_nil (own : List Nat) (tg : Tg) (c e : E) : loopC cl own tg c e ρ [] = .ok [] := rfl
theorem loopC_cons (own : List Nat) (tg : Tg) (c e : E) (d : D) (ds : List D) : loopC cl own tg c e ρ (d :: ds) = (stepC cl own tg c e ρ d).bind fun o => (loopC cl own tg c e ρ ds).bind fun r => match o with | some x => .ok (x :: r) | none => .ok r := rfl
@[simp] theorem e_cmpr (own : List Nat) (tg : Tg) (k : Itk) (it : Es) (c e : E) : evE cl (.cmpr own tg k it c e) ρ = (evEs cl it ρ).bind fun ps => match itemsOf k (ps.map (·.2)) with
      | some ds => (loopC cl own tg c e ρ ds).quiet.bind fun r => if ds.length ≤ szl then .ok (.f, .lst r) else .stuck
      | none => .stuck := rfl
@[simp] theorem s_whl (c : E) (a : Ss) : evS cl (.whl c a) ρ = loopW cl c a wfuel ρ := rfl
@[simp] theorem s_for (tg : Tg) (k : Itk) (it : Es) (a : Ss) : evS cl (.forS tg k it a) ρ = .of (evEs cl it ρ) fun ps => match itemsOf k (ps.map (·.2)) with
      | some ds => (match (if hasB ps then lockOf k it ρ else some none) with
          | some l => unlockO l (loopF cl tg a ds (lockIt l ρ))
          | none => .stuck)
      | none => .stuck := rfl
@[simp] theorem s_ret (a : E) : evS cl (.ret a) ρ = .of (evE cl a ρ) fun p => match p with
      | (.b, d) => (match a with | .var _ => .rt .f d ρ | _ => .stuck)
      | (k, d) => .rt k d ρ := rfl
@[simp] theorem s_retN : evS cl .retN ρ = .rt .v .non ρ := rfl
@[simp] theorem s_brk : evS cl .brk ρ = .bk ρ := rfl
@[simp] theorem s_cnt : evS cl .cnt ρ = .ct ρ := rfl
@[simp] theorem s_rais (x : Nat) (a : E) : evS cl (.rais x a) ρ = .of (evE cl a ρ) fun p => if lf p.2 then .exn x p.2 else .stuck := rfl
@[simp] theorem ss_nil : evSs cl .nil ρ = .nx ρ := rfl
@[simp] theorem ss_cons (s : S) (r : Ss) : evSs cl (.cons s r) ρ = match evS cl s ρ with
      | .nx ρ' => evSs cl r ρ'
      | o => o := rfl
theorem ss_nx {s : S} {r : Ss} {ρ' : List Slot} (h : evS cl s ρ = .nx ρ') : evSs cl (.cons s r) ρ = evSs cl r ρ' := by rw [ss_cons, h]
theorem ss_rt {s : S} {r : Ss} {ρ' : List Slot} {k : Kd} {d : D} (h : evS cl s ρ = .rt k d ρ') : evSs cl (.cons s r) ρ = .rt k d ρ' := by rw [ss_cons, h]
theorem ss_ct {s : S} {r : Ss} {ρ' : List Slot} (h : evS cl s ρ = .ct ρ') : evSs cl (.cons s r) ρ = .ct ρ' := by rw [ss_cons, h]
theorem ss_bk {s : S} {r : Ss} {ρ' : List Slot} (h : evS cl s ρ = .bk ρ') : evSs cl (.cons s r) ρ = .bk ρ' := by rw [ss_cons, h]
theorem ss_ex {s : S} {r : Ss} {x : Nat} {d : D} (h : evS cl s ρ = .exn x d) : evSs cl (.cons s r) ρ = .exn x d := by rw [ss_cons, h]
theorem if_t {c : E} {a b : Ss} (h : truthR (evE cl c ρ) = .ok true) : evS cl (.ifS c a b) ρ = evSs cl a ρ := by rw [s_if, h]; rfl
theorem if_f {c : E} {a b : Ss} (h : truthR (evE cl c ρ) = .ok false) : evS cl (.ifS c a b) ρ = evSs cl b ρ := by rw [s_if, h]; rfl
theorem tr_of {c : E} {b : Bool} (h : evE cl c ρ = .ok (.v, .bl b)) : truthR (evE cl c ρ) = .ok b := by rw [h]; rfl
theorem lw_t {c : E} {b : Ss} {n : Nat} (h : truthR (evE cl c ρ) = .ok true) : loopW cl c b (n + 1) ρ = match evSs cl b ρ with
      | .nx ρ' => loopW cl c b n ρ'
      | .ct ρ' => loopW cl c b n ρ'
      | .bk ρ' => .nx ρ'
      | o => o := by rw [loopW_succ, h]; rfl
theorem lw_f {c : E} {b : Ss} {n : Nat} (h : truthR (evE cl c ρ) = .ok false) : loopW cl c b (n + 1) ρ = .nx ρ := by rw [loopW_succ, h]; rfl
@[simp] theorem t_ok (k : Kd) (d : D) : truthR (R.ok (k, d)) = match truthD d with | some b => .ok b | none => .stuck := rfl
@[simp] theorem t_exn (x : Nat) (d : D) : truthR (R.exn x d) = .exn x d := rfl
@[simp] theorem t_st : truthR R.stuck = .stuck := rfl
@[simp] theorem okK_s (p : Kd × D) : okK (some p) = .ok p := rfl
@[simp] theorem okV_s (d : D) : okV (some d) = .ok (.v, d) := rfl
@[simp] theorem tr_non : truthD .non = some false := rfl
@[simp] theorem tr_bl (b : Bool) : truthD (.bl b) = some b := rfl
@[simp] theorem tr_int (i : Int) : truthD (.int i) = some (i != 0) := rfl
@[simp] theorem tr_tup (ds : List D) : truthD (.tup ds) = some (!ds.isEmpty) := rfl
@[simp] theorem tr_lst (ds : List D) : truthD (.lst ds) = some (!ds.isEmpty) := rfl
@[simp] theorem st_f (p : Kd × D) : starL false p = some [p] := rfl
@[simp] theorem so_nil : solid [] = some [] := rfl
@[simp] theorem so_v (d : D) (r : List (Kd × D)) : solid ((.v, d) :: r) = match solid r with | some ds => some (d :: ds) | none => none := rfl
@[simp] theorem so_f (d : D) (r : List (Kd × D)) : solid ((.f, d) :: r) = match solid r with | some ds => some (d :: ds) | none => none := rfl
@[simp] theorem so_b (d : D) (r : List (Kd × D)) : solid ((.b, d) :: r) = none := rfl
@[simp] theorem hb_nil : hasB [] = false := rfl
@[simp] theorem hb_v (d : D) (r : List (Kd × D)) : hasB ((.v, d) :: r) = hasB r := rfl
@[simp] theorem hb_f (d : D) (r : List (Kd × D)) : hasB ((.f, d) :: r) = hasB r := rfl
@[simp] theorem hb_b (d : D) (r : List (Kd × D)) : hasB ((.b, d) :: r) = true := rfl
@[simp] theorem ac_v (d : D) : afterCall false (.v, d, []) = .ok (.v, d) := rfl
@[simp] theorem ac_f (d : D) : afterCall false (.f, d, []) = .ok (.f, d) := rfl
@[simp] theorem ac_vt (d : D) : afterCall true (.v, d, []) = if lf d then .ok (.v, d) else .stuck := rfl
@[simp] theorem ac_ft (d : D) : afterCall true (.f, d, []) = if lf1 d then .ok (.f, d) else .stuck := rfl
@[simp] theorem sk_v (a : E) (d : D) : sinkE a (.v, d) ρ = some (.v, d, ρ) := rfl
@[simp] theorem sk_f (a : E) (d : D) : sinkE a (.f, d) ρ = some (.f, d, ρ) := rfl
@[simp] theorem sm_e (a : E) (p : Kd × D) : sinkM (.e a) p ρ = sinkE a p ρ := rfl
@[simp] theorem sm_pop (i : Nat) (d : D) : sinkM (.pop i) (.v, d) ρ = some (.v, d, ρ) := rfl
@[simp] theorem sm_c1 (f : Nat) (m : M) (d : D) : sinkM (.call1 f m) (.v, d) ρ = some (.v, d, ρ) := rfl
@[simp] theorem sm_t3 (a c : E) (m : M) (d : D) : sinkM (.tup3 a m c) (.v, d) ρ = some (.v, d, ρ) := rfl
@[simp] theorem bt_v (tg : Tg) (d : D) : bindTg tg .v d ρ = setTg tg d ρ := by cases tg <;> rfl
@[simp] theorem bt_f (i : Nat) (d : D) : bindTg (.one i) .f d ρ = some (ρ.set i (.own d)) := rfl
@[simp] theorem sg_1 (i : Nat) (d : D) : setTg (.one i) d ρ = some (ρ.set i (.val d)) := rfl
@[simp] theorem gv_val {i : Nat} {d : D} (h : ρ[i]? = some (.val d)) : getV ρ i = .ok (.v, d) := by unfold getV; rw [h]
@[simp] theorem gv_own {i : Nat} {d : D} (h : ρ[i]? = some (.own d)) : getV ρ i = .ok (.b, d) := by unfold getV; rw [h]
@[simp] theorem go_own {i : Nat} {ds : List D} (h : ρ[i]? = some (.own (.lst ds))) : getOwn ρ i = some ds := by unfold getOwn; rw [h]
@[simp] theorem f_rt {np ns : Nat} {b : Ss} (k : Kd) (d : D) : finish ⟨np, 0, ns, b⟩ (.rt k d ρ) = .ok (k, d, []) := rfl
@[simp] theorem f_nx {np ns : Nat} {b : Ss} : finish ⟨np, 0, ns, b⟩ (.nx ρ) = .ok (.v, .non, []) := rfl
@[simp] theorem f_exn {fn : Fn} (x : Nat) (d : D) : finish fn (.exn x d) = .exn x d := rfl
theorem whl_succ (c : List Slot → R Bool) (step : List Slot → Out) (n : Nat) : whlGo c step (n + 1) ρ = .of (c ρ) fun b => if b then (match step ρ with
      | .nx ρ' => whlGo c step n ρ'
      | .ct ρ' => whlGo c step n ρ'
      | .bk ρ' => .nx ρ'
      | o => o) else .nx ρ := rfl
@[simp] theorem ix_tup (ds : List D) (i : Int) : idxD (.tup ds) (.int i) = match ixD ds.length i with | some j => ds[j]? | none => none := rfl
@[simp] theorem ix_lst (ds : List D) (i : Int) : idxD (.lst ds) (.int i) = match ixD ds.length i with | some j => ds[j]? | none => none := rfl
end
end Ev
end

section
set_option linter.all false
set_option maxRecDepth 100000
/-! EvMono: more depth does no harm. -/
namespace Ev
def LeR {α : Type} (a b : R α) : Prop := a = .stuck ∨ b = a
def LeO (a b : Out) : Prop := a = .stuck ∨ b = a
theorem LeR.refl {α : Type} (a : R α) : LeR a a := .inr rfl
theorem LeO.refl (a : Out) : LeO a a := .inr rfl
theorem LeR.bind {α β : Type} {a b : R α} {f g : α → R β} (h : LeR a b) (q : ∀ x, LeR (f x) (g x)) : LeR (a.bind f) (b.bind g) := by
  rcases h with rfl | rfl
  · exact .inl rfl
  · cases b with
    | ok x => exact q x
    | exn x d => exact .inr rfl
    | stuck => exact .inl rfl
theorem LeO.of {α : Type} {a b : R α} {f g : α → Out} (h : LeR a b) (q : ∀ x, LeO (f x) (g x)) : LeO (.of a f) (.of b g) := by
  rcases h with rfl | rfl
  · exact .inl rfl
  · cases b with
    | ok x => exact q x
    | exn x d => exact .inr rfl
    | stuck => exact .inl rfl
theorem LeR.quiet {α : Type} {a b : R α} (h : LeR a b) : LeR a.quiet b.quiet := by
  rcases h with rfl | rfl
  · exact .inl rfl
  · exact .inr rfl
def LeC (cl cl' : Cl) : Prop := ∀ j ds, LeR (cl j ds) (cl' j ds)
section
variable {cl cl' : Cl}
theorem lcGo_le {f g : D → R (Option D)} (h : ∀ d, LeR (f d) (g d)) : ∀ ds, LeR (lcGo f ds) (lcGo g ds)
  | [] => .refl _
  | d :: ds => (h d).bind fun o => (lcGo_le h ds).bind fun r => .refl _
mutual
theorem evE_le (h : LeC cl cl') : ∀ (e : E) (ρ : List Slot), LeR (evE cl e ρ) (evE cl' e ρ)
  | .var i, ρ => .refl _
  | .cst d, ρ => .refl _
  | .nope, ρ => .refl _
  | .bin o a b, ρ => (evE_le h a ρ).bind fun p => (evE_le h b ρ).bind fun q => .refl _
  | .neg a, ρ => (evE_le h a ρ).bind fun p => .refl _
  | .cmp o a b, ρ => (evE_le h a ρ).bind fun p => (evE_le h b ρ).bind fun q => .refl _
  | .chn o o' a b c, ρ => by
    simp only [e_chn]
    refine (evE_le h a ρ).bind fun p => (evE_le h b ρ).bind fun q => ?_
    cases cmpD o p.2 q.2 with
    | none => exact .refl _
    | some t => cases t with
      | true => exact (evE_le h c ρ).bind fun r => .refl _
      | false => exact .refl _
  | .and a b, ρ => by
    simp only [e_and]
    refine (evE_le h a ρ).bind fun p => ?_
    cases truthD p.2 with
    | none => exact .refl _
    | some t => cases t with
      | true => exact evE_le h b ρ
      | false => exact .refl _
  | .or a b, ρ => by
    simp only [e_or]
    refine (evE_le h a ρ).bind fun p => ?_
    cases truthD p.2 with
    | none => exact .refl _
    | some t => cases t with
      | true => exact .refl _
      | false => exact evE_le h b ρ
  | .not a, ρ => (evE_le h a ρ).bind fun p => .refl _
  | .ite c a b, ρ => by
    simp only [e_ite]
    refine (evE_le h c ρ).bind fun p => ?_
    cases truthD p.2 with
    | none => exact .refl _
    | some t => cases t with
      | true => exact evE_le h a ρ
      | false => exact evE_le h b ρ
  | .tup es, ρ => (evEs_le h es ρ).bind fun ps => .refl _
  | .lst es, ρ => (evEs_le h es ρ).bind fun ps => .refl _
  | .idx a i, ρ => (evE_le h a ρ).bind fun p => (evE_le h i ρ).bind fun q => .refl _
  | .slc a lo hi, ρ => by
    simp only [e_slc]
    refine (evE_le h a ρ).bind fun p => (evE_le h lo ρ).bind fun q => ?_
    cases partOf lo q.2 with
    | none => exact .refl _
    | some l => exact (evE_le h hi ρ).bind fun r => .refl _
  | .call f es, ρ => (evEs_le h es ρ).bind fun ps => (h f _).bind fun r => .refl _
  | .blt o es, ρ => (evEs_le h es ρ).bind fun ps => .refl _
  | .isi a ts, ρ => (evE_le h a ρ).bind fun p => .refl _
  | .mth m a es, ρ => by
    simp only [e_mth]
    refine (evE_le h a ρ).bind fun p => ?_
    split
    · exact (evEs_le h es ρ).bind fun ps => .refl _
    · exact .refl _
  | .cmpr own tg k it cond elt, ρ => by
    simp only [e_cmpr]
    refine (evEs_le h it ρ).bind fun ps => ?_
    split
    · refine (LeR.quiet (lcGo_le (fun d => ?_) _)).bind fun r => .refl _
      unfold stepC
      split
      · rename_i ρ' _
        refine LeR.bind ((evE_le h cond ρ').bind fun p => .refl _) fun b => ?_
        split
        · exact (evE_le h elt ρ').bind fun p => .refl _
        · exact .refl _
      · exact .refl _
    · exact .refl _
theorem evEs_le (h : LeC cl cl') : ∀ (es : Es) (ρ : List Slot), LeR (evEs cl es ρ) (evEs cl' es ρ)
  | .nil, ρ => .refl _
  | .cons s e r, ρ => by
    simp only [es_cons]
    refine (evE_le h e ρ).bind fun p => ?_
    split
    · exact (evEs_le h r ρ).bind fun ps => .refl _
    · exact .refl _
end
theorem truth_le {a b : RK} (h : LeR a b) : LeR (truthR a) (truthR b) := h.bind fun p => .refl _
theorem evM_le (h : LeC cl cl') : ∀ (m : M) (ρ : List Slot), LeR (evM cl m ρ) (evM cl' m ρ)
  | .e a, ρ => (evE_le h a ρ).bind fun p => .refl _
  | .pop i, ρ => .refl _
  | .call1 f m, ρ => by
    simp only [m_call1]
    refine (evM_le h m ρ).bind fun q => ?_
    split
    · exact (h f _).bind fun r => .refl _
    · exact .refl _
  | .tup3 a m c, ρ => by
    simp only [m_tup3]
    refine (evE_le h a ρ).bind fun p => ?_
    split
    · refine (evM_le h m ρ).bind fun q => ?_
      split
      · exact (evE_le h c q.2).bind fun r => .refl _
      · exact .refl _
    · exact .refl _
theorem whl_le {c c' : List Slot → R Bool} {s s' : List Slot → Out} (hc : ∀ ρ, LeR (c ρ) (c' ρ)) (hs : ∀ ρ, LeO (s ρ) (s' ρ)) : ∀ (n : Nat) (ρ : List Slot), LeO (whlGo c s n ρ) (whlGo c' s' n ρ)
  | 0, _ => .refl _
  | n + 1, ρ => by
    simp only [whlGo]
    refine LeO.of (hc ρ) fun b => ?_
    split
    · rcases hs ρ with e | e
      · rw [e]; exact .inl rfl
      · rw [e]
        cases s ρ with
        | nx ρ' => exact whl_le hc hs n ρ'
        | ct ρ' => exact whl_le hc hs n ρ'
        | _ => exact .refl _
    · exact .refl _
theorem for_le {s s' : D → List Slot → Out} (hs : ∀ d ρ, LeO (s d ρ) (s' d ρ)) : ∀ (ds : List D) (ρ : List Slot), LeO (forGo s ds ρ) (forGo s' ds ρ)
  | [], _ => .refl _
  | d :: ds, ρ => by
    simp only [forGo]
    rcases hs d ρ with e | e
    · rw [e]; exact .inl rfl
    · rw [e]
      cases s d ρ with
      | nx ρ' => exact for_le hs ds ρ'
      | ct ρ' => exact for_le hs ds ρ'
      | _ => exact .refl _
theorem unlock_le {l : Option (Nat × D)} {a b : Out} (h : LeO a b) : LeO (unlockO l a) (unlockO l b) := by
  rcases h with rfl | rfl
  · exact .inl rfl
  · exact .refl _
mutual
theorem evS_le (h : LeC cl cl') : ∀ (s : S) (ρ : List Slot), LeO (evS cl s ρ) (evS cl' s ρ)
  | .pass, ρ => .refl _
  | .asg tg a, ρ => LeO.of (evE_le h a ρ) fun p => .refl _
  | .asgM i m, ρ => LeO.of (evM_le h m ρ) fun p => .refl _
  | .aug i o a, ρ => by
    simp only [s_aug]
    split
    · exact LeO.of (evE_le h a ρ) fun p => .refl _
    · exact .refl _
  | .expr a, ρ => LeO.of (evE_le h a ρ) fun p => .refl _
  | .app i m, ρ => by
    simp only [s_app]
    split
    · exact LeO.of (evM_le h m ρ) fun q => .refl _
    · exact .refl _
  | .ext i a, ρ => by
    simp only [s_ext]
    split
    · exact LeO.of (evE_le h a ρ) fun q => .refl _
    · exact .refl _
  | .popS i, ρ => .refl _
  | .io f is es, ρ => by
    simp only [s_io]
    split
    · split
      · refine LeO.of (evEs_le h es ρ) fun ps => ?_
        split
        · exact LeO.of (h f _) fun r => .refl _
        · exact .refl _
      · exact .refl _
    · exact .refl _
  | .ifS c a b, ρ => by
    simp only [s_if]
    refine LeO.of (truth_le (evE_le h c ρ)) fun t => ?_
    split
    · exact evSs_le h a ρ
    · exact evSs_le h b ρ
  | .whl c a, ρ => whl_le (fun ρ => truth_le (evE_le h c ρ)) (fun ρ => evSs_le h a ρ) wfuel ρ
  | .forS tg k it a, ρ => by
    simp only [s_for]
    refine LeO.of (evEs_le h it ρ) fun ps => ?_
    split
    · split
      · refine unlock_le (for_le (fun d ρ => ?_) _ _)
        split
        · exact evSs_le h a _
        · exact .refl _
      · exact .refl _
    · exact .refl _
  | .ret a, ρ => LeO.of (evE_le h a ρ) fun p => .refl _
  | .retN, ρ => .refl _
  | .brk, ρ => .refl _
  | .cnt, ρ => .refl _
  | .rais x a, ρ => LeO.of (evE_le h a ρ) fun p => .refl _
  | .tryAt x i a, ρ => by
    simp only [evS]
    split
    · exact .refl _
    · rcases evE_le h a ρ with e | e
      · rw [e]; exact .inl rfl
      · rw [e]; exact .refl _
theorem evSs_le (h : LeC cl cl') : ∀ (s : Ss) (ρ : List Slot), LeO (evSs cl s ρ) (evSs cl' s ρ)
  | .nil, ρ => .refl _
  | .cons s r, ρ => by
    simp only [ss_cons]
    rcases evS_le h s ρ with e | e
    · rw [e]; exact .inl rfl
    · rw [e]
      cases evS cl s ρ with
      | nx ρ' => exact evSs_le h r ρ'
      | _ => exact .refl _
end
end
theorem finish_le (fn : Fn) {a b : Out} (h : LeO a b) : LeR (finish fn a) (finish fn b) := by
  rcases h with rfl | rfl
  · exact .inl rfl
  · exact .refl _
theorem callF_le (pr : Prog) : ∀ k : Nat, LeC (callF pr k) (callF pr (k + 1))
  | 0, j, ds => .inl rfl
  | k + 1, j, ds => by
    show LeR (match pr j with | some fn => if ds.length = fn.np then finish fn (evSs (callF pr k) fn.body (startF fn ds)) else .stuck | none => .stuck) (match pr j with | some fn => if ds.length = fn.np then finish fn (evSs (callF pr (k + 1)) fn.body (startF fn ds)) else .stuck | none => .stuck)
    split
    · split
      · exact finish_le _ (evSs_le (callF_le pr k) _ _)
      · exact .refl _
    · exact .refl _
theorem callF_more {pr : Prog} {k m j : Nat} {ds : List D} {r : R (Kd × D × List D)} (h : callF pr k j ds = r) (hr : r ≠ .stuck) (hm : k ≤ m) : callF pr m j ds = r := by
  obtain ⟨d, rfl⟩ := Nat.exists_eq_add_of_le hm
  induction d with
  | zero => exact h
  | succ d ih =>
    rcases callF_le pr (k + d) j ds with e | e
    · rw [ih (Nat.le_add_right _ _)] at e
      exact absurd e hr
    · rw [show k + (d + 1) = k + d + 1 from rfl, e]
      exact ih (Nat.le_add_right _ _)
end Ev
end

section
set_option linter.all false
set_option maxRecDepth 100000
/-! K12T: the defs of the law's program in the small language (written by a program). -/
namespace K12
open Ev
/-- checked -/
def f0 : Fn := ⟨2, 0, 6, (.cons (.ifS (.cmp .is (.var 0) (.cst (.non))) (.cons (.rais 0 (.var 1)) .nil) .nil) (.cons (.ret (.var 0)) .nil))⟩
/-- is_integer -/
def f1 : Fn := ⟨1, 0, 5, (.cons (.ret (.and (.isi (.var 0) [.tint]) (.not (.isi (.var 0) [.tbool])))) .nil)⟩
/-- as_tuple -/
def f2 : Fn := ⟨1, 0, 5, (.cons (.ifS (.isi (.var 0) [.tlist, .ttuple]) (.cons (.ret (.blt .tuple1 (.cons false (.var 0) .nil))) .nil) .nil) (.cons (.ret (.cst (.non))) .nil))⟩
/-- as_integer -/
def f3 : Fn := ⟨3, 0, 7, (.cons (.ifS (.and (.call 1 (.cons false (.var 0) .nil)) (.chn .le .le (.var 1) (.var 0) (.var 2))) (.cons (.ret (.var 0)) .nil) .nil) (.cons (.ret (.cst (.non))) .nil))⟩
/-- as_string -/
def f4 : Fn := ⟨1, 0, 5, (.cons (.ifS (.isi (.var 0) [.tstr]) (.cons (.ret (.var 0)) .nil) .nil) (.cons (.ret (.cst (.non))) .nil))⟩
/-- as_name -/
def f5 : Fn := ⟨1, 0, 6, (.cons (.ifS (.or (.not (.isi (.var 0) [.tstr])) (.not (.chn .le .le (.cst (.int 1)) (.blt .len (.cons false (.var 0) .nil)) (.cst (.int 8))))) (.cons (.ret (.cst (.non))) .nil) .nil) (.cons (.forS (.one 1) .seq (.cons false (.var 0) .nil) (.cons (.ifS (.not (.chn .le .le (.cst (.str [97])) (.var 1) (.cst (.str [122])))) (.cons (.ret (.cst (.non))) .nil) .nil) .nil)) (.cons (.ret (.var 0)) .nil)))⟩
/-- as_line -/
def f6 : Fn := ⟨1, 0, 6, (.cons (.ifS (.or (.not (.isi (.var 0) [.tstr])) (.cmp .gt (.blt .len (.cons false (.var 0) .nil)) (.cst (.int 40)))) (.cons (.ret (.cst (.non))) .nil) .nil) (.cons (.forS (.one 1) .seq (.cons false (.var 0) .nil) (.cons (.ifS (.not (.chn .le .le (.cst (.str [32])) (.var 1) (.cst (.str [126])))) (.cons (.ret (.cst (.non))) .nil) .nil) .nil)) (.cons (.ret (.var 0)) .nil)))⟩
/-- as_id -/
def f7 : Fn := ⟨1, 0, 6, (.cons (.asg (.one 1) (.call 2 (.cons false (.var 0) .nil))) (.cons (.ifS (.or (.cmp .is (.var 1) (.cst (.non))) (.cmp .ne (.blt .len (.cons false (.var 1) .nil)) (.cst (.int 2)))) (.cons (.ret (.cst (.non))) .nil) .nil) (.cons (.ifS (.or (.cmp .is (.call 5 (.cons false (.idx (.var 1) (.cst (.int 0))) .nil)) (.cst (.non))) (.cmp .is (.call 3 (.cons false (.idx (.var 1) (.cst (.int 1))) (.cons false (.cst (.int 1)) (.cons false (.cst (.int 999)) .nil)))) (.cst (.non)))) (.cons (.ret (.cst (.non))) .nil) .nil) (.cons (.ret (.var 1)) .nil))))⟩
/-- quoted -/
def f8 : Fn := ⟨1, 0, 5, (.cons (.ret (.bin .add (.bin .add (.cst (.str [39])) (.mth .replace (.mth .replace (.var 0) (.cons false (.cst (.str [92])) (.cons false (.cst (.str [92, 92])) .nil))) (.cons false (.cst (.str [39])) (.cons false (.cst (.str [92, 39])) .nil)))) (.cst (.str [39])))) .nil)⟩
/-- quote_end -/
def f9 : Fn := ⟨2, 0, 6, (.cons (.asg (.one 2) (.bin .add (.var 1) (.cst (.int 1)))) (.cons (.whl (.cmp .lt (.var 2) (.blt .len (.cons false (.var 0) .nil))) (.cons (.ifS (.cmp .eq (.idx (.var 0) (.var 2)) (.cst (.str [39]))) (.cons (.ret (.bin .add (.var 2) (.cst (.int 1)))) .nil) .nil) (.cons (.aug 2 .add (.ite (.cmp .eq (.idx (.var 0) (.var 2)) (.cst (.str [92]))) (.cst (.int 2)) (.cst (.int 1)))) .nil))) (.cons (.ret (.cst (.non))) .nil)))⟩
/-- word_end -/
def f10 : Fn := ⟨2, 0, 6, (.cons (.ifS (.cmp .eq (.idx (.var 0) (.var 1)) (.cst (.str [39]))) (.cons (.ret (.call 9 (.cons false (.var 0) (.cons false (.var 1) .nil)))) .nil) .nil) (.cons (.asg (.one 2) (.bin .add (.var 1) (.cst (.int 1)))) (.cons (.whl (.and (.cmp .notin (.idx (.var 0) (.var 1)) (.cst (.str [40, 41]))) (.and (.cmp .lt (.var 2) (.blt .len (.cons false (.var 0) .nil))) (.cmp .notin (.idx (.var 0) (.var 2)) (.cst (.str [32, 40, 41, 39]))))) (.cons (.aug 2 .add (.cst (.int 1))) .nil)) (.cons (.ret (.var 2)) .nil))))⟩
/-- has_other_signs -/
def f11 : Fn := ⟨1, 0, 5, (.cons (.ret (.blt .any1 (.cons false (.cmpr [1] (.one 1) .seq (.cons false (.var 0) .nil) (.cst (.bl true)) (.not (.chn .le .le (.cst (.str [32])) (.var 1) (.cst (.str [126]))))) .nil))) .nil)⟩
/-- ask_words -/
def f12 : Fn := ⟨1, 0, 8, (.cons (.ifS (.call 11 (.cons false (.var 0) .nil)) (.cons (.ret (.cst (.non))) .nil) .nil) (.cons (.asg (.one 1) (.lst .nil)) (.cons (.asg (.one 2) (.cst (.int 0))) (.cons (.whl (.cmp .lt (.var 2) (.blt .len (.cons false (.var 0) .nil))) (.cons (.ifS (.cmp .eq (.idx (.var 0) (.var 2)) (.cst (.str [32]))) (.cons (.aug 2 .add (.cst (.int 1))) (.cons .cnt .nil)) .nil) (.cons (.asg (.one 3) (.call 10 (.cons false (.var 0) (.cons false (.var 2) .nil)))) (.cons (.ifS (.cmp .is (.var 3) (.cst (.non))) (.cons (.ret (.cst (.non))) .nil) .nil) (.cons (.ifS (.and (.cmp .gt (.var 2) (.cst (.int 0))) (.and (.cmp .notin (.idx (.var 0) (.bin .sub (.var 2) (.cst (.int 1)))) (.cst (.str [32, 40, 41]))) (.cmp .notin (.idx (.var 0) (.var 2)) (.cst (.str [40, 41]))))) (.cons (.app 1 (.e (.cst (.str [])))) .nil) .nil) (.cons (.app 1 (.e (.slc (.var 0) (.var 2) (.var 3)))) (.cons (.asg (.one 2) (.var 3)) .nil))))))) (.cons (.ret (.var 1)) .nil)))))⟩
/-- unquoted -/
def f13 : Fn := ⟨1, 0, 6, (.cons (.ifS (.cmp .ne (.slc (.var 0) .nope (.cst (.int 1))) (.cst (.str [39]))) (.cons (.ret (.cst (.non))) .nil) .nil) (.cons (.asg (.one 1) (.lst .nil)) (.cons (.asg (.one 2) (.cst (.int 1))) (.cons (.whl (.cmp .lt (.var 2) (.bin .sub (.blt .len (.cons false (.var 0) .nil)) (.cst (.int 1)))) (.cons (.ifS (.cmp .eq (.idx (.var 0) (.var 2)) (.cst (.str [92]))) (.cons (.aug 2 .add (.cst (.int 1))) (.cons (.ifS (.and (.cmp .ne (.idx (.var 0) (.var 2)) (.cst (.str [39]))) (.cmp .ne (.idx (.var 0) (.var 2)) (.cst (.str [92])))) (.cons (.ret (.cst (.non))) .nil) .nil) .nil)) .nil) (.cons (.app 1 (.e (.idx (.var 0) (.var 2)))) (.cons (.aug 2 .add (.cst (.int 1))) .nil)))) (.cons (.ret (.call 6 (.cons false (.mth .join (.cst (.str [])) (.cons false (.var 1) .nil)) .nil))) .nil)))))⟩
/-- id_text -/
def f14 : Fn := ⟨1, 0, 5, (.cons (.ret (.bin .add (.bin .add (.idx (.var 0) (.cst (.int 0))) (.cst (.str [46]))) (.blt .str1 (.cons false (.idx (.var 0) (.cst (.int 1))) .nil)))) .nil)⟩
/-- parse_number -/
def f15 : Fn := ⟨3, 0, 10, (.cons (.ifS (.or (.cmp .eq (.var 0) (.cst (.str []))) (.or (.cmp .gt (.blt .len (.cons false (.var 0) .nil)) (.cst (.int 12))) (.and (.cmp .eq (.idx (.var 0) (.cst (.int 0))) (.cst (.str [48]))) (.cmp .gt (.blt .len (.cons false (.var 0) .nil)) (.cst (.int 1)))))) (.cons (.ret (.cst (.non))) .nil) .nil) (.cons (.asg (.one 3) (.cst (.int 0))) (.cons (.forS (.one 4) .seq (.cons false (.var 0) .nil) (.cons (.asg (.one 5) (.mth .find (.cst (.str [48, 49, 50, 51, 52, 53, 54, 55, 56, 57])) (.cons false (.var 4) .nil))) (.cons (.ifS (.cmp .lt (.var 5) (.cst (.int 0))) (.cons (.ret (.cst (.non))) .nil) .nil) (.cons (.asg (.one 3) (.bin .add (.bin .mul (.var 3) (.cst (.int 10))) (.var 5))) .nil)))) (.cons (.ifS (.chn .le .le (.var 1) (.var 3) (.var 2)) (.cons (.ret (.var 3)) .nil) .nil) (.cons (.ret (.cst (.non))) .nil)))))⟩
/-- parse_id -/
def f16 : Fn := ⟨1, 0, 6, (.cons (.asg (.one 1) (.mth .split (.var 0) (.cons false (.cst (.str [46])) .nil))) (.cons (.ifS (.cmp .ne (.blt .len (.cons false (.var 1) .nil)) (.cst (.int 2))) (.cons (.ret (.cst (.non))) .nil) .nil) (.cons (.ret (.call 7 (.cons false (.tup (.cons false (.idx (.var 1) (.cst (.int 0))) (.cons false (.call 15 (.cons false (.idx (.var 1) (.cst (.int 1))) (.cons false (.cst (.int 1)) (.cons false (.cst (.int 999)) .nil)))) .nil))) .nil))) .nil)))⟩
/-- as_path -/
def f17 : Fn := ⟨1, 0, 8, (.cons (.asg (.one 1) (.call 4 (.cons false (.var 0) .nil))) (.cons (.ifS (.cmp .is (.var 1) (.cst (.non))) (.cons (.ret (.cst (.non))) .nil) .nil) (.cons (.asg (.one 2) (.mth .split (.var 1) (.cons false (.cst (.str [47])) .nil))) (.cons (.ifS (.cmp .gt (.blt .len (.cons false (.var 2) .nil)) (.cst (.int 6))) (.cons (.ret (.cst (.non))) .nil) .nil) (.cons (.forS (.one 3) .seq (.cons false (.var 2) .nil) (.cons (.ifS (.cmp .is (.call 5 (.cons false (.var 3) .nil)) (.cst (.non))) (.cons (.ret (.cst (.non))) .nil) .nil) .nil)) (.cons (.ret (.var 1)) .nil))))))⟩
/-- leaf_value -/
def f18 : Fn := ⟨2, 0, 6, (.cons (.ifS (.cmp .isin (.var 0) (.cst (.tup [.str [98, 121], .str [116, 97, 103]]))) (.cons (.ret (.call 5 (.cons false (.var 1) .nil))) .nil) .nil) (.cons (.ifS (.cmp .isin (.var 0) (.cst (.tup [.str [105, 100], .str [117, 110, 100, 101, 114], .str [111, 118, 101, 114]]))) (.cons (.ret (.call 7 (.cons false (.var 1) .nil))) .nil) .nil) (.cons (.ifS (.cmp .eq (.var 0) (.cst (.str [102, 105, 108, 101]))) (.cons (.ret (.call 17 (.cons false (.var 1) .nil))) .nil) .nil) (.cons (.ifS (.cmp .eq (.var 0) (.cst (.str [116, 101, 120, 116]))) (.cons (.ret (.call 6 (.cons false (.var 1) .nil))) .nil) .nil) (.cons (.ret (.cst (.non))) .nil)))))⟩
/-- as_leaf -/
def f19 : Fn := ⟨1, 0, 6, (.cons (.ifS (.cmp .isin (.idx (.var 0) (.cst (.int 0))) (.cst (.tup [.str [97, 108, 108], .str [110, 111, 110, 101], .str [116, 111, 112, 115]]))) (.cons (.ret (.ite (.cmp .eq (.blt .len (.cons false (.var 0) .nil)) (.cst (.int 1))) (.tup (.cons false (.idx (.var 0) (.cst (.int 0))) .nil)) (.cst (.non)))) .nil) .nil) (.cons (.ifS (.cmp .ne (.blt .len (.cons false (.var 0) .nil)) (.cst (.int 2))) (.cons (.ret (.cst (.non))) .nil) .nil) (.cons (.asg (.one 1) (.call 18 (.cons false (.idx (.var 0) (.cst (.int 0))) (.cons false (.idx (.var 0) (.cst (.int 1))) .nil)))) (.cons (.ret (.ite (.cmp .is (.var 1) (.cst (.non))) (.cst (.non)) (.tup (.cons false (.idx (.var 0) (.cst (.int 0))) (.cons false (.var 1) .nil))))) .nil))))⟩
/-- is_small -/
def f20 : Fn := ⟨1, 0, 8, (.cons (.asg (.one 1) (.lst (.cons false (.var 0) .nil))) (.cons (.asg (.one 2) (.cst (.int 0))) (.cons (.whl (.var 1) (.cons (.asgM 3 (.call1 2 (.pop 1))) (.cons (.aug 2 .add (.cst (.int 1))) (.cons (.ifS (.or (.cmp .is (.var 3) (.cst (.non))) (.or (.cmp .eq (.blt .len (.cons false (.var 3) .nil)) (.cst (.int 0))) (.or (.not (.isi (.idx (.var 3) (.cst (.int 0))) [.tstr])) (.cmp .gt (.var 2) (.cst (.int 60)))))) (.cons (.ret (.cst (.bl false))) .nil) .nil) (.cons (.ifS (.or (.cmp .isin (.idx (.var 3) (.cst (.int 0))) (.cst (.tup [.str [110, 111, 116], .str [110, 101, 101, 100, 115]]))) (.cmp .isin (.idx (.var 3) (.cst (.int 0))) (.cst (.tup [.str [97, 110, 100], .str [111, 114]])))) (.cons (.ifS (.cmp .ne (.blt .len (.cons false (.var 3) .nil)) (.ite (.cmp .isin (.idx (.var 3) (.cst (.int 0))) (.cst (.tup [.str [110, 111, 116], .str [110, 101, 101, 100, 115]]))) (.cst (.int 2)) (.cst (.int 3)))) (.cons (.ret (.cst (.bl false))) .nil) .nil) (.cons (.ext 1 (.slc (.var 3) (.cst (.int 1)) .nope)) .nil)) .nil) .nil))))) (.cons (.ret (.cst (.bl true))) .nil))))⟩
/-- plain_rows -/
def f21 : Fn := ⟨1, 0, 7, (.cons (.asg (.one 1) (.call 2 (.cons false (.var 0) .nil))) (.cons (.ifS (.and (.cmp .notin (.idx (.var 1) (.cst (.int 0))) (.cst (.tup [.str [110, 111, 116], .str [110, 101, 101, 100, 115]]))) (.cmp .notin (.idx (.var 1) (.cst (.int 0))) (.cst (.tup [.str [97, 110, 100], .str [111, 114]])))) (.cons (.ret (.call 19 (.cons false (.var 1) .nil))) .nil) .nil) (.cons (.asg (.one 2) (.cmpr [4] (.one 4) .seq (.cons false (.slc (.var 1) (.cst (.int 1)) .nope) .nil) (.cst (.bl true)) (.call 21 (.cons false (.var 4) .nil)))) (.cons (.ifS (.blt .any1 (.cons false (.cmpr [4] (.one 4) .seq (.cons false (.var 2) .nil) (.cst (.bl true)) (.cmp .is (.var 4) (.cst (.non)))) .nil)) (.cons (.ret (.cst (.non))) .nil) .nil) (.cons (.ret (.tup (.cons false (.idx (.var 1) (.cst (.int 0))) (.cons true (.var 2) .nil)))) .nil)))))⟩
/-- as_ask -/
def f22 : Fn := ⟨1, 0, 5, (.cons (.ret (.ite (.call 20 (.cons false (.var 0) .nil)) (.call 21 (.cons false (.var 0) .nil)) (.cst (.non)))) .nil)⟩
/-- bracketed -/
def f23 : Fn := ⟨2, 0, 7, (.cons (.asg (.one 2) (.call 24 (.cons false (.var 0) .nil))) (.cons (.ret (.ite (.cmp .isin (.idx (.var 0) (.cst (.int 0))) (.var 1)) (.bin .add (.bin .add (.cst (.str [40])) (.var 2)) (.cst (.str [41]))) (.var 2))) .nil))⟩
/-- ask_text -/
def f24 : Fn := ⟨1, 0, 6, (.cons (.asg (.one 1) (.idx (.var 0) (.cst (.int 0)))) (.cons (.ifS (.cmp .isin (.var 1) (.cst (.tup [.str [97, 108, 108], .str [110, 111, 110, 101], .str [116, 111, 112, 115]]))) (.cons (.ret (.var 1)) .nil) .nil) (.cons (.ifS (.cmp .isin (.var 1) (.cst (.tup [.str [110, 111, 116], .str [110, 101, 101, 100, 115]]))) (.cons (.ret (.bin .add (.bin .add (.var 1) (.cst (.str [32]))) (.call 23 (.cons false (.idx (.var 0) (.cst (.int 1))) (.cons false (.cst (.tup [.str [97, 110, 100], .str [111, 114]])) .nil))))) .nil) .nil) (.cons (.ifS (.cmp .eq (.var 1) (.cst (.str [97, 110, 100]))) (.cons (.ret (.bin .add (.bin .add (.call 23 (.cons false (.idx (.var 0) (.cst (.int 1))) (.cons false (.tup (.cons false (.cst (.str [111, 114])) .nil)) .nil))) (.cst (.str [32, 97, 110, 100, 32]))) (.call 23 (.cons false (.idx (.var 0) (.cst (.int 2))) (.cons false (.cst (.tup [.str [97, 110, 100], .str [111, 114]])) .nil))))) .nil) .nil) (.cons (.ifS (.cmp .eq (.var 1) (.cst (.str [111, 114]))) (.cons (.ret (.bin .add (.bin .add (.call 24 (.cons false (.idx (.var 0) (.cst (.int 1))) .nil)) (.cst (.str [32, 111, 114, 32]))) (.call 23 (.cons false (.idx (.var 0) (.cst (.int 2))) (.cons false (.tup (.cons false (.cst (.str [111, 114])) .nil)) .nil))))) .nil) .nil) (.cons (.ifS (.cmp .isin (.var 1) (.cst (.tup [.str [105, 100], .str [117, 110, 100, 101, 114], .str [111, 118, 101, 114]]))) (.cons (.ret (.bin .add (.bin .add (.var 1) (.cst (.str [32]))) (.call 14 (.cons false (.idx (.var 0) (.cst (.int 1))) .nil)))) .nil) .nil) (.cons (.ifS (.cmp .eq (.var 1) (.cst (.str [116, 101, 120, 116]))) (.cons (.ret (.bin .add (.bin .add (.var 1) (.cst (.str [32]))) (.call 8 (.cons false (.idx (.var 0) (.cst (.int 1))) .nil)))) .nil) .nil) (.cons (.ret (.bin .add (.bin .add (.var 1) (.cst (.str [32]))) (.idx (.var 0) (.cst (.int 1))))) .nil))))))))⟩
/-- read_leaf -/
def f25 : Fn := ⟨1, 0, 6, (.cons (.ifS (.cmp .eq (.blt .len (.cons false (.var 0) .nil)) (.cst (.int 1))) (.cons (.ret (.ite (.cmp .isin (.idx (.var 0) (.cst (.int 0))) (.cst (.tup [.str [97, 108, 108], .str [110, 111, 110, 101], .str [116, 111, 112, 115]]))) (.tup (.cons false (.idx (.var 0) (.cst (.int 0))) .nil)) (.cst (.non)))) .nil) .nil) (.cons (.ifS (.cmp .eq (.idx (.var 0) (.cst (.int 0))) (.cst (.str [116, 101, 120, 116]))) (.cons (.asg (.one 1) (.call 13 (.cons false (.idx (.var 0) (.cst (.int 1))) .nil))) .nil) (.cons (.ifS (.cmp .isin (.idx (.var 0) (.cst (.int 0))) (.cst (.tup [.str [105, 100], .str [117, 110, 100, 101, 114], .str [111, 118, 101, 114]]))) (.cons (.asg (.one 1) (.call 16 (.cons false (.idx (.var 0) (.cst (.int 1))) .nil))) .nil) (.cons (.asg (.one 1) (.call 18 (.cons false (.idx (.var 0) (.cst (.int 0))) (.cons false (.idx (.var 0) (.cst (.int 1))) .nil)))) .nil)) .nil)) (.cons (.ret (.ite (.cmp .is (.var 1) (.cst (.non))) (.cst (.non)) (.tup (.cons false (.idx (.var 0) (.cst (.int 0))) (.cons false (.var 1) .nil))))) .nil)))⟩
/-- bind -/
def f26 : Fn := ⟨3, 2, 9, (.cons (.whl (.and (.var 0) (.cmp .isin (.idx (.var 0) (.neg (.cst (.int 1)))) (.var 2))) (.cons (.asgM 3 (.pop 0)) (.cons (.asgM 4 (.pop 1)) (.cons (.ifS (.cmp .isin (.var 3) (.cst (.tup [.str [110, 111, 116], .str [110, 101, 101, 100, 115]]))) (.cons (.app 1 (.e (.tup (.cons false (.var 3) (.cons false (.var 4) .nil))))) .nil) (.cons (.app 1 (.tup3 (.var 3) (.pop 1) (.var 4))) .nil)) .nil)))) .nil)⟩
/-- close_bracket -/
def f27 : Fn := ⟨2, 2, 6, (.cons (.io 26 [0, 1] (.cons false (.tup (.cons false (.cst (.str [110, 111, 116])) (.cons false (.cst (.str [110, 101, 101, 100, 115])) (.cons false (.cst (.str [97, 110, 100])) (.cons false (.cst (.str [111, 114])) .nil))))) .nil)) (.cons (.popS 0) (.cons (.io 26 [0, 1] (.cons false (.cst (.tup [.str [110, 111, 116], .str [110, 101, 101, 100, 115]])) .nil)) .nil)))⟩
/-- parse_ask -/
def f28 : Fn := ⟨1, 0, 14, (.cons (.asg (.one 1) (.call 12 (.cons false (.var 0) .nil))) (.cons (.ifS (.cmp .is (.var 1) (.cst (.non))) (.cons (.rais 1 (.neg (.cst (.int 1)))) .nil) .nil) (.cons (.asg (.one 2) (.lst .nil)) (.cons (.asg (.one 3) (.lst .nil)) (.cons (.asg (.one 4) (.cst (.int 0))) (.cons (.asg (.one 5) (.cst (.int 0))) (.cons (.asg (.one 6) (.cst (.bl true))) (.cons (.whl (.cmp .lt (.var 5) (.blt .len (.cons false (.var 1) .nil))) (.cons (.asg (.one 7) (.idx (.var 1) (.var 5))) (.cons (.ifS (.and (.var 6) (.cmp .isin (.var 7) (.cst (.tup [.str [97, 108, 108], .str [110, 111, 110, 101], .str [116, 111, 112, 115], .str [98, 121], .str [116, 97, 103], .str [105, 100], .str [117, 110, 100, 101, 114], .str [111, 118, 101, 114], .str [102, 105, 108, 101], .str [116, 101, 120, 116]])))) (.cons (.asg (.one 8) (.bin .add (.var 5) (.ite (.cmp .isin (.var 7) (.cst (.tup [.str [97, 108, 108], .str [110, 111, 110, 101], .str [116, 111, 112, 115]]))) (.cst (.int 1)) (.cst (.int 2))))) (.cons (.asg (.one 9) (.call 25 (.cons false (.slc (.var 1) (.var 5) (.var 8)) .nil))) (.cons (.ifS (.cmp .is (.var 9) (.cst (.non))) (.cons (.rais 1 (.bin .add (.var 5) (.cst (.int 1)))) .nil) .nil) (.cons (.app 3 (.e (.var 9))) (.cons (.io 26 [2, 3] (.cons false (.cst (.tup [.str [110, 111, 116], .str [110, 101, 101, 100, 115]])) .nil)) (.cons (.asg (.one 6) (.cst (.bl false))) (.cons (.asg (.one 5) (.bin .sub (.var 8) (.cst (.int 1)))) .nil))))))) (.cons (.ifS (.and (.var 6) (.or (.cmp .eq (.var 7) (.cst (.str [40]))) (.cmp .isin (.var 7) (.cst (.tup [.str [110, 111, 116], .str [110, 101, 101, 100, 115]]))))) (.cons (.app 2 (.e (.var 7))) .nil) (.cons (.ifS (.and (.not (.var 6)) (.cmp .isin (.var 7) (.cst (.tup [.str [97, 110, 100], .str [111, 114]])))) (.cons (.io 26 [2, 3] (.cons false (.ite (.cmp .eq (.var 7) (.cst (.str [97, 110, 100]))) (.tup (.cons false (.cst (.str [97, 110, 100])) .nil)) (.cst (.tup [.str [97, 110, 100], .str [111, 114]]))) .nil)) (.cons (.app 2 (.e (.var 7))) (.cons (.asg (.one 6) (.cst (.bl true))) .nil))) (.cons (.ifS (.and (.not (.var 6)) (.and (.cmp .eq (.var 7) (.cst (.str [41]))) (.cmp .isin (.cst (.str [40])) (.var 2)))) (.cons (.io 27 [2, 3] .nil) .nil) (.cons (.rais 1 (.var 5)) .nil)) .nil)) .nil)) .nil)) (.cons (.aug 4 .add (.ite (.cmp .isin (.var 7) (.cst (.str [40, 41]))) (.cst (.int 0)) (.cst (.int 1)))) (.cons (.aug 5 .add (.cst (.int 1))) .nil))))) (.cons (.ifS (.or (.var 6) (.cmp .isin (.cst (.str [40])) (.var 2))) (.cons (.rais 1 (.blt .len (.cons false (.var 1) .nil))) .nil) .nil) (.cons (.ifS (.cmp .gt (.var 4) (.cst (.int 60))) (.cons (.rais 1 (.cst (.int 60))) .nil) .nil) (.cons (.io 26 [2, 3] (.cons false (.cst (.tup [.str [97, 110, 100], .str [111, 114]])) .nil)) (.cons (.ret (.idx (.var 3) (.cst (.int 0)))) .nil))))))))))))⟩
/-- written -/
def f29 : Fn := ⟨1, 0, 5, (.cons (.ret (.call 24 (.cons false (.call 0 (.cons false (.call 22 (.cons false (.var 0) .nil)) (.cons false (.cst (.int 1)) .nil))) .nil))) .nil)⟩
/-- read -/
def f30 : Fn := ⟨1, 0, 5, (.cons (.ret (.call 28 (.cons false (.call 0 (.cons false (.call 4 (.cons false (.var 0) .nil)) (.cons false (.cst (.int 1)) .nil))) .nil))) .nil)⟩
/-- _law_cell -/
def f31 : Fn := ⟨2, 0, 6, (.cons (.ifS (.cmp .lt (.var 1) (.blt .len (.cons false (.var 0) .nil))) (.cons (.ret (.blt .int1 (.cons false (.idx (.var 0) (.var 1)) .nil))) .nil) .nil) (.cons (.ret (.cst (.int 0))) .nil))⟩
/-- _law_numbers -/
def f32 : Fn := ⟨3, 0, 11, (.cons (.asg (.one 3) (.call 31 (.cons false (.var 0) (.cons false (.var 1) .nil)))) (.cons (.asg (.one 4) (.lst .nil)) (.cons (.asg (.one 5) (.var 3)) (.cons (.forS (.one 6) .rng1 (.cons false (.var 2) .nil) (.cons (.ifS (.cmp .ge (.var 3) (.bin .pow (.cst (.int 10)) (.cst (.int 18)))) (.cons (.app 4 (.e (.bin .mod (.blt .int1 (.cons false (.var 5) .nil)) (.bin .pow (.cst (.int 10)) (.cst (.int 9)))))) (.cons (.asg (.one 5) (.bin .fdiv (.var 5) (.bin .pow (.cst (.int 10)) (.cst (.int 9))))) .nil)) (.cons (.asg (.one 7) (.bin .mod (.blt .int1 (.cons false (.bin .add (.bin .add (.bin .mul (.var 3) (.cst (.int 48271))) (.bin .mul (.bin .add (.var 6) (.cst (.int 1))) (.cst (.int 69621)))) (.var 1)) .nil)) (.cst (.int 2147483647)))) (.cons (.app 4 (.e (.bin .mod (.bin .mod (.blt .int1 (.cons false (.bin .add (.bin .mul (.var 7) (.cst (.int 16807))) (.bin .mul (.bin .add (.var 6) (.cst (.int 3))) (.cst (.int 40692)))) .nil)) (.cst (.int 2147483399))) (.bin .pow (.cst (.int 10)) (.cst (.int 9)))))) .nil))) .nil)) (.cons (.ret (.var 4)) .nil)))))⟩
/-- _law_same -/
def f33 : Fn := ⟨2, 0, 6, (.cons (.ifS (.and (.isi (.var 0) [.ttuple]) (.isi (.var 1) [.ttuple])) (.cons (.ret (.and (.cmp .eq (.blt .len (.cons false (.var 0) .nil)) (.blt .len (.cons false (.var 1) .nil))) (.cmp .eq (.cmpr [4] (.one 4) .rng1 (.cons false (.blt .len (.cons false (.var 0) .nil)) .nil) (.not (.call 33 (.cons false (.idx (.var 0) (.var 4)) (.cons false (.idx (.var 1) (.var 4)) .nil)))) (.var 4)) (.lst .nil)))) .nil) .nil) (.cons (.ifS (.or (.cmp .is (.var 0) (.cst (.non))) (.cmp .is (.var 1) (.cst (.non)))) (.cons (.ret (.and (.cmp .is (.var 0) (.cst (.non))) (.cmp .is (.var 1) (.cst (.non))))) .nil) .nil) (.cons (.ifS (.or (.isi (.var 0) [.tbool]) (.isi (.var 1) [.tbool])) (.cons (.ret (.and (.isi (.var 0) [.tbool]) (.and (.isi (.var 1) [.tbool]) (.cmp .eq (.var 0) (.var 1))))) .nil) .nil) (.cons (.ret (.and (.isi (.var 0) [.tint, .tstr]) (.and (.cmp .eq (.isi (.var 0) [.tint]) (.isi (.var 1) [.tint])) (.cmp .eq (.var 0) (.var 1))))) .nil))))⟩
/-- _law_ask -/
def f34 : Fn := ⟨3, 0, 11, (.cons (.asg (.one 3) (.bin .add (.blt .int1 (.cons false (.idx (.var 0) (.bin .mod (.var 1) (.blt .len (.cons false (.var 0) .nil)))) .nil)) (.var 1))) (.cons (.asg (.one 4) (.bin .mod (.var 3) (.cst (.int 14)))) (.cons (.ifS (.and (.cmp .gt (.var 4) (.cst (.int 8))) (.cmp .gt (.var 2) (.cst (.int 0)))) (.cons (.ifS (.cmp .isin (.var 4) (.tup (.cons false (.cst (.int 9)) (.cons false (.cst (.int 10)) .nil)))) (.cons (.ret (.tup (.cons false (.cst (.str [110, 111, 116])) (.cons false (.call 34 (.cons false (.var 0) (.cons false (.bin .add (.bin .mul (.var 1) (.cst (.int 2))) (.cst (.int 1))) (.cons false (.bin .sub (.var 2) (.cst (.int 1))) .nil)))) .nil)))) .nil) .nil) (.cons (.ifS (.cmp .eq (.var 4) (.cst (.int 11))) (.cons (.ret (.tup (.cons false (.cst (.str [110, 101, 101, 100, 115])) (.cons false (.call 34 (.cons false (.var 0) (.cons false (.bin .add (.bin .mul (.var 1) (.cst (.int 2))) (.cst (.int 1))) (.cons false (.bin .sub (.var 2) (.cst (.int 1))) .nil)))) .nil)))) .nil) .nil) (.cons (.ret (.tup (.cons false (.idx (.lst (.cons false (.cst (.str [97, 110, 100])) (.cons false (.cst (.str [111, 114])) .nil))) (.bin .sub (.var 4) (.cst (.int 12)))) (.cons false (.call 34 (.cons false (.var 0) (.cons false (.bin .add (.bin .mul (.var 1) (.cst (.int 2))) (.cst (.int 1))) (.cons false (.bin .sub (.var 2) (.cst (.int 1))) .nil)))) (.cons false (.call 34 (.cons false (.var 0) (.cons false (.bin .add (.bin .mul (.var 1) (.cst (.int 2))) (.cst (.int 2))) (.cons false (.bin .sub (.var 2) (.cst (.int 1))) .nil)))) .nil))))) .nil))) .nil) (.cons (.asg (.one 5) (.tup (.cons false (.idx (.lst (.cons false (.cst (.str [97, 100, 97])) (.cons false (.cst (.str [98, 101, 110])) (.cons false (.cst (.str [99, 97, 121])) .nil)))) (.bin .mod (.blt .int1 (.cons false (.bin .fdiv (.var 3) (.cst (.int 14))) .nil)) (.cst (.int 3)))) (.cons false (.bin .add (.cst (.int 1)) (.bin .mod (.blt .int1 (.cons false (.bin .fdiv (.var 3) (.cst (.int 42))) .nil)) (.cst (.int 4)))) .nil)))) (.cons (.asg (.one 6) (.lst (.cons false (.tup (.cons false (.cst (.str [97, 108, 108])) .nil)) (.cons false (.tup (.cons false (.cst (.str [110, 111, 110, 101])) .nil)) (.cons false (.tup (.cons false (.cst (.str [116, 111, 112, 115])) .nil)) (.cons false (.tup (.cons false (.cst (.str [98, 121])) (.cons false (.idx (.var 5) (.cst (.int 0))) .nil))) (.cons false (.tup (.cons false (.cst (.str [105, 100])) (.cons false (.var 5) .nil))) (.cons false (.tup (.cons false (.cst (.str [117, 110, 100, 101, 114])) (.cons false (.var 5) .nil))) (.cons false (.tup (.cons false (.cst (.str [111, 118, 101, 114])) (.cons false (.var 5) .nil))) (.cons false (.tup (.cons false (.cst (.str [102, 105, 108, 101])) (.cons false (.idx (.lst (.cons false (.cst (.str [97])) (.cons false (.cst (.str [98])) (.cons false (.cst (.str [97, 47, 98])) .nil)))) (.bin .mod (.blt .int1 (.cons false (.bin .fdiv (.var 3) (.cst (.int 14))) .nil)) (.cst (.int 3)))) .nil))) (.cons false (.tup (.cons false (.cst (.str [116, 101, 120, 116])) (.cons false (.idx (.lst (.cons false (.cst (.str [120])) (.cons false (.cst (.str [105, 116, 39, 115])) (.cons false (.cst (.str [119, 32, 120])) (.cons false (.cst (.str [97, 92, 98])) .nil))))) (.bin .mod (.blt .int1 (.cons false (.bin .fdiv (.var 3) (.cst (.int 14))) .nil)) (.cst (.int 4)))) .nil))) (.cons false (.tup (.cons false (.cst (.str [116, 97, 103])) (.cons false (.idx (.lst (.cons false (.cst (.str [118])) (.cons false (.cst (.str [119])) .nil))) (.bin .mod (.blt .int1 (.cons false (.bin .fdiv (.var 3) (.cst (.int 14))) .nil)) (.cst (.int 2)))) .nil))) .nil)))))))))))) (.cons (.ret (.idx (.var 6) (.bin .mod (.blt .int1 (.cons false (.bin .fdiv (.var 3) (.cst (.int 3))) .nil)) (.blt .len (.cons false (.var 6) .nil))))) .nil))))))⟩
/-- _law_written -/
def f35 : Fn := ⟨2, 0, 9, (.cons (.asg (.one 2) (.idx (.var 0) (.cst (.int 0)))) (.cons (.ifS (.cmp .isin (.var 2) (.tup (.cons false (.cst (.str [97, 110, 100])) (.cons false (.cst (.str [111, 114])) .nil)))) (.cons (.asg (.one 3) (.ite (.cmp .eq (.var 2) (.cst (.str [97, 110, 100]))) (.cst (.int 2)) (.cst (.int 1)))) (.cons (.asg (.one 4) (.bin .add (.bin .add (.bin .add (.bin .add (.call 35 (.cons false (.idx (.var 0) (.cst (.int 1))) (.cons false (.var 3) .nil))) (.cst (.str [32]))) (.var 2)) (.cst (.str [32]))) (.call 35 (.cons false (.idx (.var 0) (.cst (.int 2))) (.cons false (.bin .add (.var 3) (.cst (.int 1))) .nil))))) (.cons (.ret (.ite (.cmp .lt (.var 3) (.var 1)) (.bin .add (.bin .add (.cst (.str [40])) (.var 4)) (.cst (.str [41]))) (.var 4))) .nil))) .nil) (.cons (.ifS (.cmp .isin (.var 2) (.tup (.cons false (.cst (.str [110, 111, 116])) (.cons false (.cst (.str [110, 101, 101, 100, 115])) .nil)))) (.cons (.ret (.bin .add (.bin .add (.var 2) (.cst (.str [32]))) (.call 35 (.cons false (.idx (.var 0) (.cst (.int 1))) (.cons false (.cst (.int 3)) .nil))))) .nil) .nil) (.cons (.ifS (.cmp .isin (.var 2) (.tup (.cons false (.cst (.str [105, 100])) (.cons false (.cst (.str [117, 110, 100, 101, 114])) (.cons false (.cst (.str [111, 118, 101, 114])) .nil))))) (.cons (.ret (.bin .add (.bin .add (.bin .add (.bin .add (.var 2) (.cst (.str [32]))) (.idx (.idx (.var 0) (.cst (.int 1))) (.cst (.int 0)))) (.cst (.str [46]))) (.blt .str1 (.cons false (.idx (.idx (.var 0) (.cst (.int 1))) (.cst (.int 1))) .nil)))) .nil) .nil) (.cons (.ifS (.cmp .eq (.var 2) (.cst (.str [116, 101, 120, 116]))) (.cons (.ret (.bin .add (.bin .add (.cst (.str [116, 101, 120, 116, 32, 39])) (.mth .replace (.mth .replace (.idx (.var 0) (.cst (.int 1))) (.cons false (.cst (.str [92])) (.cons false (.cst (.str [92, 92])) .nil))) (.cons false (.cst (.str [39])) (.cons false (.cst (.str [92, 39])) .nil)))) (.cst (.str [39])))) .nil) .nil) (.cons (.ret (.mth .join (.cst (.str [32])) (.cons false (.var 0) .nil))) .nil))))))⟩
/-- _law_is_name -/
def f36 : Fn := ⟨1, 0, 5, (.cons (.ret (.and (.chn .le .le (.cst (.int 1)) (.blt .len (.cons false (.var 0) .nil)) (.cst (.int 8))) (.cmp .eq (.cmpr [1] (.one 1) .seq (.cons false (.var 0) .nil) (.not (.chn .le .le (.cst (.str [97])) (.var 1) (.cst (.str [122])))) (.var 1)) (.lst .nil)))) .nil)⟩
/-- _law_fits -/
def f37 : Fn := ⟨2, 0, 7, (.cons (.ifS (.cmp .eq (.var 0) (.cst (.str [110, 97, 109, 101]))) (.cons (.ret (.call 36 (.cons false (.var 1) .nil))) .nil) .nil) (.cons (.ifS (.cmp .eq (.var 0) (.cst (.str [112, 97, 116, 104]))) (.cons (.ret (.and (.cmp .ne (.var 1) (.cst (.str []))) (.and (.cmp .le (.blt .len (.cons false (.mth .split (.var 1) (.cons false (.cst (.str [47])) .nil)) .nil)) (.cst (.int 6))) (.cmp .eq (.cmpr [6] (.one 6) .seq (.cons false (.mth .split (.var 1) (.cons false (.cst (.str [47])) .nil)) .nil) (.not (.call 36 (.cons false (.var 6) .nil))) (.var 6)) (.lst .nil))))) .nil) .nil) (.cons (.ifS (.cmp .eq (.var 0) (.cst (.str [116, 101, 120, 116]))) (.cons (.ret (.and (.cmp .gt (.blt .len (.cons false (.var 1) .nil)) (.cst (.int 1))) (.and (.cmp .eq (.idx (.var 1) (.cst (.int 0))) (.cst (.str [39]))) (.cmp .eq (.idx (.var 1) (.neg (.cst (.int 1)))) (.cst (.str [39])))))) .nil) .nil) (.cons (.asg (.one 2) (.mth .split (.var 1) (.cons false (.cst (.str [46])) .nil))) (.cons (.ret (.and (.cmp .eq (.blt .len (.cons false (.var 2) .nil)) (.cst (.int 2))) (.and (.call 36 (.cons false (.idx (.var 2) (.cst (.int 0))) .nil)) (.cmp .isin (.idx (.var 2) (.cst (.int 1))) (.cmpr [5] (.one 5) .rng2 (.cons false (.cst (.int 1)) (.cons false (.cst (.int 1000)) .nil)) (.cst (.bl true)) (.blt .str1 (.cons false (.var 5) .nil))))))) .nil)))))⟩
/-- _law_right -/
def f38 : Fn := ⟨1, 0, 8, (.cons (.asg (.one 1) (.cst (.str [97, 115, 107]))) (.cons (.asg (.one 2) (.cst (.int 0))) (.cons (.forS (.one 3) .rng1 (.cons false (.blt .len (.cons false (.var 0) .nil)) .nil) (.cons (.asg (.one 4) (.idx (.var 0) (.var 3))) (.cons (.ifS (.cmp .eq (.var 1) (.cst (.str [97, 115, 107]))) (.cons (.ifS (.cmp .eq (.var 4) (.cst (.str [40]))) (.cons (.asg (.one 2) (.bin .add (.var 2) (.cst (.int 1)))) .nil) (.cons (.ifS (.cmp .isin (.var 4) (.tup (.cons false (.cst (.str [97, 108, 108])) (.cons false (.cst (.str [110, 111, 110, 101])) (.cons false (.cst (.str [116, 111, 112, 115])) .nil))))) (.cons (.asg (.one 1) (.cst (.str [109, 111, 114, 101]))) .nil) (.cons (.ifS (.cmp .isin (.var 4) (.tup (.cons false (.cst (.str [98, 121])) (.cons false (.cst (.str [116, 97, 103])) (.cons false (.cst (.str [105, 100])) (.cons false (.cst (.str [117, 110, 100, 101, 114])) (.cons false (.cst (.str [111, 118, 101, 114])) (.cons false (.cst (.str [102, 105, 108, 101])) (.cons false (.cst (.str [116, 101, 120, 116])) .nil))))))))) (.cons (.asg (.one 1) (.ite (.cmp .isin (.var 4) (.tup (.cons false (.cst (.str [98, 121])) (.cons false (.cst (.str [116, 97, 103])) .nil)))) (.cst (.str [110, 97, 109, 101])) (.ite (.cmp .eq (.var 4) (.cst (.str [116, 101, 120, 116]))) (.var 4) (.ite (.cmp .eq (.var 4) (.cst (.str [102, 105, 108, 101]))) (.cst (.str [112, 97, 116, 104])) (.cst (.str [105, 100])))))) .nil) (.cons (.ifS (.cmp .notin (.var 4) (.tup (.cons false (.cst (.str [110, 111, 116])) (.cons false (.cst (.str [110, 101, 101, 100, 115])) .nil)))) (.cons (.ret (.var 3)) .nil) .nil) .nil)) .nil)) .nil)) .nil) (.cons (.ifS (.cmp .eq (.var 1) (.cst (.str [109, 111, 114, 101]))) (.cons (.ifS (.cmp .isin (.var 4) (.tup (.cons false (.cst (.str [97, 110, 100])) (.cons false (.cst (.str [111, 114])) .nil)))) (.cons (.asg (.one 1) (.cst (.str [97, 115, 107]))) .nil) (.cons (.ifS (.and (.cmp .eq (.var 4) (.cst (.str [41]))) (.cmp .gt (.var 2) (.cst (.int 0)))) (.cons (.asg (.one 2) (.bin .sub (.var 2) (.cst (.int 1)))) .nil) (.cons (.ret (.var 3)) .nil)) .nil)) .nil) (.cons (.ifS (.not (.call 37 (.cons false (.var 1) (.cons false (.var 4) .nil)))) (.cons (.ret (.var 3)) .nil) .nil) (.cons (.asg (.one 1) (.cst (.str [109, 111, 114, 101]))) .nil))) .nil)) .nil))) (.cons (.ret (.ite (.and (.cmp .eq (.var 1) (.cst (.str [109, 111, 114, 101]))) (.cmp .eq (.var 2) (.cst (.int 0)))) (.cst (.non)) (.blt .len (.cons false (.var 0) .nil)))) .nil))))⟩
/-- _law_doubtful -/
def f39 : Fn := ⟨1, 0, 6, (.cons (.asg (.one 1) (.lst (.cons false (.cst (.str [97, 110, 100])) (.cons false (.cst (.str [111, 114])) (.cons false (.cst (.str [110, 111, 116])) (.cons false (.cst (.str [110, 101, 101, 100, 115])) (.cons false (.cst (.str [98, 121])) (.cons false (.cst (.str [105, 100])) (.cons false (.cst (.str [102, 105, 108, 101])) (.cons false (.cst (.str [97, 108, 108])) (.cons false (.cst (.str [116, 97, 103])) (.cons false (.cst (.str [110, 111, 110, 101])) (.cons false (.cst (.str [116, 111, 112, 115])) (.cons false (.cst (.str [117, 110, 100, 101, 114])) (.cons false (.cst (.str [111, 118, 101, 114])) (.cons false (.cst (.str [116, 101, 120, 116])) .nil)))))))))))))))) (.cons (.ret (.cmp .ne (.cmpr [4] (.one 4) .rng1 (.cons false (.bin .sub (.blt .len (.cons false (.var 0) .nil)) (.cst (.int 1))) .nil) (.and (.cmp .isin (.idx (.var 0) (.var 4)) (.tup (.cons false (.cst (.str [98, 121])) (.cons false (.cst (.str [116, 97, 103])) (.cons false (.cst (.str [102, 105, 108, 101])) .nil))))) (.cmp .isin (.idx (.var 0) (.bin .add (.var 4) (.cst (.int 1)))) (.var 1))) (.var 4)) (.lst .nil))) .nil))⟩
/-- _law_words -/
def f40 : Fn := ⟨1, 0, 5, (.cons (.ret (.mth .split (.mth .replace (.mth .replace (.var 0) (.cons false (.cst (.str [40])) (.cons false (.cst (.str [40, 32])) .nil))) (.cons false (.cst (.str [41])) (.cons false (.cst (.str [32, 41])) .nil))) (.cons false (.cst (.str [32])) .nil))) .nil)⟩
/-- _law_told_of -/
def f41 : Fn := ⟨1, 0, 6, (.cons (.tryAt 1 1 (.call 30 (.cons false (.var 0) .nil))) .nil)⟩
/-- law -/
def f42 : Fn := ⟨1, 0, 18, (.cons (.asg (.one 1) (.call 34 (.cons false (.call 32 (.cons false (.var 0) (.cons false (.cst (.int 0)) (.cons false (.cst (.int 9)) .nil)))) (.cons false (.cst (.int 0)) (.cons false (.cst (.int 3)) .nil))))) (.cons (.asg (.one 2) (.call 35 (.cons false (.var 1) (.cons false (.cst (.int 0)) .nil)))) (.cons (.ifS (.cmp .isin (.cst (.str [119, 32, 120])) (.var 2)) (.cons (.ret (.call 33 (.cons false (.call 30 (.cons false (.var 2) .nil)) (.cons false (.var 1) .nil)))) .nil) .nil) (.cons (.asg (.one 3) (.call 40 (.cons false (.var 2) .nil))) (.cons (.ifS (.or (.cmp .isnot (.call 38 (.cons false (.var 3) .nil)) (.cst (.non))) (.not (.call 33 (.cons false (.call 30 (.cons false (.mth .join (.cst (.str [32])) (.cons false (.var 3) .nil)) .nil)) (.cons false (.var 1) .nil))))) (.cons (.ret (.cst (.bl false))) .nil) .nil) (.cons (.asg (.one 4) (.lst (.cons false (.cst (.str [97, 110, 100])) (.cons false (.cst (.str [111, 114])) (.cons false (.cst (.str [110, 111, 116])) (.cons false (.cst (.str [110, 101, 101, 100, 115])) (.cons false (.cst (.str [40])) (.cons false (.cst (.str [41])) (.cons false (.cst (.str [98, 121])) (.cons false (.cst (.str [105, 100])) (.cons false (.cst (.str [102, 105, 108, 101])) (.cons false (.cst (.str [97, 108, 108])) (.cons false (.cst (.str [97, 100, 97])) (.cons false (.cst (.str [97, 100, 97, 46, 49])) (.cons false (.cst (.str [97, 100, 97, 46, 48])) (.cons false (.cst (.str [97, 47, 98])) (.cons false (.cst (.str [39, 120, 39])) (.cons false (.cst (.str [116, 97, 103])) (.cons false (.cst (.str [97, 100, 97, 46, 49, 48, 48, 48])) .nil))))))))))))))))))) (.cons (.forS (.one 5) .rng1 (.cons false (.cst (.int 5)) .nil) (.cons (.asg (.one 6) (.blt .int1 (.cons false (.bin .fdiv (.call 31 (.cons false (.var 0) (.cons false (.cst (.int 1)) .nil))) (.bin .add (.cst (.int 1)) (.bin .mul (.cst (.int 7)) (.var 5)))) .nil))) (.cons (.asg (.one 7) (.bin .mod (.blt .int1 (.cons false (.bin .fdiv (.var 6) (.cst (.int 60))) .nil)) (.bin .add (.blt .len (.cons false (.var 3) .nil)) (.cst (.int 1))))) (.cons (.asg (.one 8) (.idx (.var 4) (.bin .mod (.var 6) (.blt .len (.cons false (.var 4) .nil))))) (.cons (.asg (.one 9) (.bin .mod (.blt .int1 (.cons false (.bin .fdiv (.var 6) (.cst (.int 20))) .nil)) (.cst (.int 4)))) (.cons (.asg (.one 10) (.ite (.cmp .lt (.var 9) (.cst (.int 3))) (.bin .add (.bin .add (.slc (.var 3) .nope (.var 7)) (.ite (.cmp .lt (.var 9) (.cst (.int 2))) (.lst (.cons false (.var 8) .nil)) (.lst .nil))) (.slc (.var 3) (.bin .add (.var 7) (.ite (.cmp .gt (.var 9) (.cst (.int 0))) (.cst (.int 1)) (.cst (.int 0)))) .nope)) (.slc (.var 3) .nope (.var 7)))) (.cons (.asg (.one 11) (.call 38 (.cons false (.var 10) .nil))) (.cons (.ifS (.and (.cmp .ne (.var 10) (.lst .nil)) (.not (.call 39 (.cons false (.var 10) .nil)))) (.cons (.asg (.one 12) (.call 41 (.cons false (.mth .join (.cst (.str [32])) (.cons false (.var 10) .nil)) .nil))) (.cons (.ifS (.or (.and (.cmp .is (.var 11) (.cst (.non))) (.not (.isi (.var 12) [.ttuple]))) (.and (.cmp .isnot (.var 11) (.cst (.non))) (.not (.call 33 (.cons false (.var 12) (.cons false (.var 11) .nil)))))) (.cons (.ret (.cst (.bl false))) .nil) .nil) (.cons (.ifS (.and (.cmp .is (.var 11) (.cst (.non))) (.not (.call 33 (.cons false (.call 30 (.cons false (.call 29 (.cons false (.var 12) .nil)) .nil)) (.cons false (.var 12) .nil))))) (.cons (.ret (.cst (.bl false))) .nil) .nil) .nil))) .nil) .nil)))))))) (.cons (.forS (.tup [13, 14]) .seq (.cons false (.lst (.cons false (.tup (.cons false (.cst (.str [116, 101, 120, 116, 39, 120, 39])) (.cons false (.cst (.int 1)) .nil))) (.cons false (.tup (.cons false (.cst (.str [97, 108, 108, 9, 111, 114])) (.cons false (.bin .sub (.cst (.int 0)) (.cst (.int 1))) .nil))) (.cons false (.tup (.cons false (.cst (.str [])) (.cons false (.cst (.int 0)) .nil))) (.cons false (.tup (.cons false (.bin .add (.bin .mul (.cst (.str [110, 111, 116, 32])) (.cst (.int 60))) (.cst (.str [97, 108, 108]))) (.cons false (.cst (.int 60)) .nil))) (.cons false (.tup (.cons false (.cst (.str [97, 108, 108, 32, 97, 108, 108])) (.cons false (.cst (.int 1)) .nil))) (.cons false (.tup (.cons false (.cst (.str [98, 121])) (.cons false (.cst (.int 1)) .nil))) .nil))))))) .nil) (.cons (.ifS (.not (.call 33 (.cons false (.call 41 (.cons false (.var 13) .nil)) (.cons false (.var 14) .nil)))) (.cons (.ret (.cst (.bl false))) .nil) .nil) .nil)) (.cons (.ret (.and (.call 33 (.cons false (.call 41 (.cons false (.cst (.str [98, 121, 32, 39, 97, 100, 97])) .nil)) (.cons false (.bin .sub (.cst (.int 0)) (.cst (.int 1))) .nil))) (.call 33 (.cons false (.call 41 (.cons false (.cst (.str [32, 32, 97, 108, 108, 32, 32])) .nil)) (.cons false (.tup (.cons false (.cst (.str [97, 108, 108])) .nil)) .nil))))) .nil)))))))))⟩
def prT : List Fn := [f0, f1, f2, f3, f4, f5, f6, f7, f8, f9, f10, f11, f12, f13, f14, f15, f16, f17, f18, f19, f20, f21, f22, f23, f24, f25, f26, f27, f28, f29, f30, f31, f32, f33, f34, f35, f36, f37, f38, f39, f40, f41, f42]
def pr : Prog := fun j => prT[j]?
end K12
end

section
set_option linter.all false
set_option maxRecDepth 100000
set_option maxHeartbeats 400000
/-! K12s: texts, cut into words. -/
namespace K12
open Ev
theorem cf {k j : Nat} {ds : List D} {fn : Fn} (h : pr j = some fn) (hl : ds.length = fn.np) : callF pr (k + 1) j ds = Ev.finish fn (evSs (callF pr k) fn.body (startF fn ds)) := by
  simp only [callF, h, hl, if_true]
theorem inS1 (c : Nat) : ∀ l : List Nat, inS [c] l = decide (c ∈ l)
  | [] => by simp [inS, isPre]
  | d :: l => by
    simp only [inS, isPre, inS1 c l, Bool.and_true, List.mem_cons]
    by_cases h : c = d <;> simp [h]
theorem isin_str (x y : List Nat) : cmpD .isin (.str x) (.str y) = some (inS x y) := rfl
theorem notin_str (x y : List Nat) : cmpD .notin (.str x) (.str y) = some (!inS x y) := rfl
theorem eq_str (x y : List Nat) : cmpD .eq (.str x) (.str y) = some (x == y) := rfl
theorem ne_str (x y : List Nat) : cmpD .ne (.str x) (.str y) = some (!(x == y)) := rfl
theorem eq_int (x y : Int) : cmpD .eq (.int x) (.int y) = some (x == y) := rfl
theorem ne_int (x y : Int) : cmpD .ne (.int x) (.int y) = some (!(x == y)) := rfl
theorem lt_int (x y : Int) : cmpD .lt (.int x) (.int y) = some (decide (x < y)) := rfl
theorem le_int (x y : Int) : cmpD .le (.int x) (.int y) = some (decide (x ≤ y)) := rfl
theorem gt_int (x y : Int) : cmpD .gt (.int x) (.int y) = some (decide (y < x)) := rfl
theorem ge_int (x y : Int) : cmpD .ge (.int x) (.int y) = some (decide (y ≤ x)) := rfl
theorem is_non (x : D) : cmpD .is x .non = some (isNonD x) := by cases x <;> rfl
theorem isnot_non (x : D) : cmpD .isnot x .non = some (!isNonD x) := by cases x <;> rfl
theorem len_str {s : List Nat} (h : s.length ≤ szl) : bltD .len [.str s] = some (.int s.length) := by simp [bltD, h]
theorem idx_str {s : List Nat} {i c : Nat} (h : s.length ≤ szl) (e : s[i]? = some c) : idxD (.str s) (.int i) = some (.str [c]) := by
  have hi : i < s.length := (List.getElem?_eq_some_iff.mp e).1
  have h1 : ixD s.length (i : Int) = some i := by
    unfold ixD
    have : (0 : Int) ≤ i := by omega
    have h2 : (i : Int) < (s.length : Int) := by omega
    simp [this, h2]
  simp only [idxD, h1, e, h, if_true]
theorem idx_at (pre : List Nat) (c : Nat) (r : List Nat) (h : (pre ++ c :: r).length ≤ szl) : idxD (.str (pre ++ c :: r)) (.int pre.length) = some (.str [c]) := idx_str h (by simp)

/-! ### quote_end, word_end -/
/-- the signs of a quoted word behind its first sign: up to the closing sign -/
def qEnd : List Nat → Option Nat
  | [] => none
  | [c] => if c = 39 then some 1 else none
  | c :: d :: r => if c = 39 then some 1 else if c = 92 then (match qEnd r with | some j => some (j + 2) | none => none) else (match qEnd (d :: r) with | some j => some (j + 1) | none => none)
theorem qEnd_cons (c : Nat) (r : List Nat) : qEnd (c :: r) = if c = 39 then some 1 else if c = 92 then (match r with | [] => none | _ :: r => (match qEnd r with | some j => some (j + 2) | none => none)) else (match qEnd r with | some j => some (j + 1) | none => none) := by
  cases r with
  | nil =>
    simp only [qEnd]
    by_cases h : c = 39
    · simp [h]
    · by_cases h2 : c = 92 <;> simp [h, h2]
  | cons d r => rfl
theorem wf_big : 16777216 < wfuel := by decide
abbrev qC : E := .cmp .lt (.var 2) (.blt .len (.cons false (.var 0) .nil))
abbrev qB : Ss := .cons (.ifS (.cmp .eq (.idx (.var 0) (.var 2)) (.cst (.str [39]))) (.cons (.ret (.bin .add (.var 2) (.cst (.int 1)))) .nil) .nil) (.cons (.aug 2 .add (.ite (.cmp .eq (.idx (.var 0) (.var 2)) (.cst (.str [92]))) (.cst (.int 2)) (.cst (.int 1)))) .nil)
/-- quote_end: the loop -/
theorem quote_loop {cl : Cl} {T : List Nat} (hz : T.length ≤ szl) (at_ : Int) (s3 s4 s5 : Slot) : ∀ (n : Nat) (m : Nat) (r : List Nat) (pre : List Nat) (j : Nat), T = pre ++ r → r.length ≤ m → m < n → qEnd r = some j →
    ∃ ρ', loopW cl qC qB n [.val (.str T), .val (.int at_), .val (.int pre.length), s3, s4, s5] = .rt .v (.int (pre.length + j)) ρ' := by
  intro n
  induction n with
  | zero => intro m r pre j _ _ h; omega
  | succ n ih =>
    intro m r pre j hT hr hm hq
    cases r with
    | nil => cases hq
    | cons c r =>
      have hlt : (pre.length : Int) < (T.length : Int) := by rw [hT]; simp; omega
      have hix : idxD (.str T) (.int pre.length) = some (.str [c]) := by subst hT; exact idx_at pre c r hz
      rw [loopW_succ]
      rw [qEnd_cons] at hq
      by_cases h1 : c = 39
      · subst h1
        have : j = 1 := by simpa using hq.symm
        subst this
        simp [len_str hz, lt_int, hlt, hix, eq_str, binD, getV]
      · rw [if_neg h1] at hq
        have b1 : (c == 39) = false := by simp [h1]
        by_cases h2 : c = 92
        · subst h2
          rw [if_pos rfl] at hq
          cases r with
          | nil => cases hq
          | cons d r =>
            dsimp only at hq
            split at hq
            · rename_i j' hj
              cases hq
              simp only [List.length_cons] at hr
              obtain ⟨ρ', this⟩ := ih (m - 2) r (pre ++ [92, d]) j' (by rw [hT]; simp) (by omega) (by omega) hj
              simp only [List.length_append, List.length_cons, List.length_nil] at this
              simp [len_str hz, lt_int, hlt, hix, eq_str, augD, getV]
              have e1 : ((pre.length : Int) + 2) = ((pre.length + (0 + 1 + 1) : Nat) : Int) := by omega
              rw [e1, this]
              exact ⟨ρ', by congr 2; omega⟩
            · cases hq
        · rw [if_neg h2] at hq
          have b2 : (c == 92) = false := by simp [h2]
          split at hq
          · rename_i j' hj
            cases hq
            simp only [List.length_cons] at hr
            obtain ⟨ρ', this⟩ := ih (m - 1) r (pre ++ [c]) j' (by rw [hT]; simp) (by omega) (by omega) hj
            simp only [List.length_append, List.length_cons, List.length_nil] at this
            simp [len_str hz, lt_int, hlt, hix, eq_str, augD, b1, b2, getV]
            have e1 : ((pre.length : Int) + 1) = ((pre.length + (0 + 1) : Nat) : Int) := by omega
            rw [e1, this]
            exact ⟨ρ', by congr 2; omega⟩
          · cases hq
/-- quote_end -/
theorem quote_end (k : Nat) {pre r : List Nat} {c j : Nat} (hz : (pre ++ c :: r).length ≤ szl) (hq : qEnd r = some j) : callF pr (k + 1) 9 [.str (pre ++ c :: r), .int pre.length] = .ok (.v, .int (pre.length + 1 + j), []) := by
  rw [cf (fn := f9) rfl rfl]
  have hl : r.length < wfuel := by
    have := wf_big
    simp only [List.length_append, List.length_cons] at hz
    unfold szl at hz
    omega
  obtain ⟨ρ', h⟩ := quote_loop (cl := callF pr k) hz (pre.length : Int) .none .none .none wfuel r.length r (pre ++ [c]) j (by simp) (Nat.le_refl _) hl hq
  simp only [List.length_append, List.length_cons, List.length_nil] at h
  have e1 : ((pre.length : Int) + 1) = ((pre.length + (0 + 1) : Nat) : Int) := by omega
  rw [← e1] at h
  simp [f9, startF, getV, binD]
  rw [show (Es.cons false (E.var 0) Es.nil) = Es.cons false (E.var 0) Es.nil from rfl, h]
  simp
/-- how far a plain word goes on -/
def pLen : List Nat → Nat
  | [] => 0
  | c :: r => if c = 32 ∨ c = 40 ∨ c = 41 ∨ c = 39 then 0 else pLen r + 1
abbrev wC : E := .and (.cmp .notin (.idx (.var 0) (.var 1)) (.cst (.str [40, 41]))) (.and (.cmp .lt (.var 2) (.blt .len (.cons false (.var 0) .nil))) (.cmp .notin (.idx (.var 0) (.var 2)) (.cst (.str [32, 40, 41, 39]))))
abbrev wB : Ss := .cons (.aug 2 .add (.cst (.int 1))) .nil
theorem word_loop {cl : Cl} {T : List Nat} (hz : T.length ≤ szl) {a c0 : Nat} (ha : T[a]? = some c0) (h0 : c0 ≠ 40 ∧ c0 ≠ 41) (s3 s4 s5 : Slot) : ∀ (r : List Nat) (n : Nat) (pre : List Nat), T = pre ++ r → r.length < n →
    loopW cl wC wB n [.val (.str T), .val (.int a), .val (.int pre.length), s3, s4, s5] = .nx [.val (.str T), .val (.int a), .val (.int (pre.length + pLen r)), s3, s4, s5] := by
  intro r
  have hia := idx_str hz ha
  have hb : decide (c0 ∈ [40, 41]) = false := by simp [h0.1, h0.2]
  induction r with
  | nil =>
    intro n pre hT hn
    cases n with
    | zero => omega
    | succ n =>
      have hlt : ¬ (pre.length : Int) < (T.length : Int) := by rw [hT]; simp
      rw [loopW_succ]
      simp [getV, hia, notin_str, inS1, hb, len_str hz, lt_int, hlt, pLen, h0]
  | cons c r ih =>
    intro n pre hT hn
    cases n with
    | zero => omega
    | succ n =>
      have hlt : (pre.length : Int) < (T.length : Int) := by rw [hT]; simp; omega
      have hix : idxD (.str T) (.int pre.length) = some (.str [c]) := by subst hT; exact idx_at pre c r hz
      rw [loopW_succ]
      simp only [List.length_cons] at hn
      by_cases hs : c = 32 ∨ c = 40 ∨ c = 41 ∨ c = 39
      · have hd : decide (c ∈ [32, 40, 41, 39]) = true := by simpa using hs
        simp [getV, hia, notin_str, inS1, hb, len_str hz, lt_int, hlt, hix, pLen, hs, h0]
      · have := ih n (pre ++ [c]) (by rw [hT]; simp) (by omega)
        simp only [List.length_append, List.length_cons, List.length_nil] at this
        have e1 : ((pre.length : Int) + 1) = ((pre.length + (0 + 1) : Nat) : Int) := by omega
        rw [← e1] at this
        simp [getV, hia, notin_str, inS1, hb, len_str hz, lt_int, hlt, hix, pLen, hs, h0, augD]
        rw [this]
        rw [Int.add_assoc, Int.add_comm 1]
/-- where the word ends that begins here -/
def wEnd (c : Nat) (r : List Nat) : Option Nat := if c = 39 then (match qEnd r with | some j => some (j + 1) | none => none) else if c = 40 ∨ c = 41 then some 1 else some (pLen r + 1)
theorem word_end (k : Nat) {pre r : List Nat} {c j : Nat} (hz : (pre ++ c :: r).length ≤ szl) (hq : wEnd c r = some j) : callF pr (k + 2) 10 [.str (pre ++ c :: r), .int pre.length] = .ok (.v, .int (pre.length + j), []) := by
  rw [cf (fn := f10) rfl rfl]
  have hix := idx_at pre c r hz
  unfold wEnd at hq
  have hl : r.length < wfuel := by
    have := wf_big
    simp only [List.length_append, List.length_cons] at hz
    unfold szl at hz
    omega
  by_cases h1 : c = 39
  · subst h1
    rw [if_pos rfl] at hq
    split at hq
    · rename_i j' hj
      cases hq
      have := quote_end k (pre := pre) (c := 39) hz hj
      simp [f10, startF, getV, hix, eq_str, this]
      omega
    · cases hq
  · have b1 : (c == 39) = false := by simp [h1]
    rw [if_neg h1] at hq
    by_cases h2 : c = 40 ∨ c = 41
    · rw [if_pos h2] at hq
      cases hq
      have hd : decide (c ∈ [40, 41]) = true := by simpa using h2
      have hw : loopW (callF pr (k + 1)) wC wB wfuel [.val (.str (pre ++ c :: r)), .val (.int pre.length), .val (.int (pre.length + 1)), .none, .none, .none] = .nx [.val (.str (pre ++ c :: r)), .val (.int pre.length), .val (.int (pre.length + 1)), .none, .none, .none] := by
        rw [show wfuel = 999999999 + 1 from rfl, loopW_succ]
        simp [getV, hix, notin_str, inS1, h2]
      simp [f10, startF, getV, hix, eq_str, b1, binD]
      rw [hw]
      simp [getV]
    · rw [if_neg h2] at hq
      cases hq
      have := word_loop (cl := callF pr (k + 1)) hz (a := pre.length) (c0 := c) (by simp) (by simpa using h2) .none .none .none r wfuel (pre ++ [c]) (by simp) hl
      simp only [List.length_append, List.length_cons, List.length_nil] at this
      have e1 : ((pre.length : Int) + 1) = ((pre.length + (0 + 1) : Nat) : Int) := by omega
      rw [← e1] at this
      simp [f10, startF, getV, hix, eq_str, b1, binD]
      rw [this]
      simp [getV]
      omega

/-! ### has_other_signs, ask_words -/
def printable (l : List Nat) : Bool := l.all fun c => decide (32 ≤ c) && decide (c ≤ 126)
theorem signs_loop {cl : Cl} (s0 s1 s2 s3 s4 : Slot) : ∀ l : List Nat, printable l = true → loopC cl [1] (.one 1) (.cst (.bl true)) (.not (.chn .le .le (.cst (.str [32])) (.var 1) (.cst (.str [126])))) [s0, s1, s2, s3, s4] (l.map fun c => .str [c]) = .ok (l.map fun _ => .bl false)
  | [], _ => rfl
  | c :: l, h => by
    simp only [printable, List.all_cons, Bool.and_eq_true, decide_eq_true_eq] at h
    have ih := signs_loop (cl := cl) s0 s1 s2 s3 s4 l (by simpa [printable] using h.2)
    rw [List.map_cons, loopC_cons, ih]
    have h1 : ¬ c < 32 := by omega
    have h2 : ¬ 126 < c := by omega
    have h3 : ltS [c] [32] = false := by
      simp only [ltS, h1, if_false]
      split <;> rfl
    have h4 : ltS [126] [c] = false := by
      simp only [ltS, h2, if_false]
      split <;> rfl
    simp [stepC, wipeS, getV, cmpD, h3, h4]
theorem allBl_f (l : List Nat) : allBl (l.map fun _ => D.bl false) = some (l.map fun _ => false) := by
  induction l with
  | nil => rfl
  | cons c l ih => simp [allBl, ih]
theorem other_signs (k : Nat) {T : List Nat} (h : printable T = true) (hz : T.length ≤ szl) : callF pr (k + 1) 11 [.str T] = .ok (.v, .bl false, []) := by
  rw [cf (fn := f11) rfl rfl]
  simp [f11, startF, getV, itemsOf, signs_loop, h, hz, bltD, allBl_f]
/-- words and whether a blank stands ahead of them -/
abbrev Lay := List (Bool × List Nat)
def txt : Lay → List Nat
  | [] => []
  | (true, w) :: L => 32 :: (w ++ txt L)
  | (false, w) :: L => w ++ txt L
def lastO (p : Option Nat) : List Nat → Option Nat
  | [] => p
  | c :: r => lastO (some c) r
def openB (p : Option Nat) : Bool := match p with | none => true | some c => decide (c = 32) || decide (c = 40) || decide (c = 41)
def good : Option Nat → Lay → Prop
  | _, [] => True
  | p, (b, w) :: L => ∃ c r, w = c :: r ∧ c ≠ 32 ∧ wEnd c (r ++ txt L) = some w.length ∧ (b = true ∨ openB p = true ∨ c = 40 ∨ c = 41) ∧ good (lastO none w) L
theorem cut_mid (pre w post : List Nat) : cutL (pre ++ (w ++ post)) (some (pre.length : Int)) (some ((pre.length : Int) + (w.length : Int))) = w := by
  unfold cutL sEnd
  have h1 : ¬ ((pre.length : Int) < 0) := by omega
  have h2 : ¬ ((pre.length : Int) + (w.length : Int) < 0) := by omega
  simp only [h1, h2, if_false, List.length_append]
  have e1 : min (pre.length : Int).toNat (pre.length + (w.length + post.length)) = pre.length := by omega
  have e2 : min ((pre.length : Int) + (w.length : Int)).toNat (pre.length + (w.length + post.length)) = pre.length + w.length := by omega
  rw [e1, e2]
  simp
theorem last_get {pre : List Nat} {c : Nat} (h : lastO none pre = some c) : ∃ q, pre = q ++ [c] := by
  have go : ∀ (l : List Nat) (p : Option Nat) (c : Nat), lastO p l = some c → (l = [] ∧ p = some c) ∨ ∃ q, l = q ++ [c] := by
    intro l
    induction l with
    | nil => intro p c h; exact .inl ⟨rfl, h⟩
    | cons d l ih =>
      intro p c h
      rcases ih (some d) c h with ⟨rfl, e⟩ | ⟨q, rfl⟩
      · cases e; exact .inr ⟨[], rfl⟩
      · exact .inr ⟨d :: q, rfl⟩
  rcases go pre none c h with ⟨_, e⟩ | h
  · cases e
  · exact h
theorem last_none {pre : List Nat} (h : lastO none pre = none) : pre = [] := by
  have go : ∀ (l : List Nat) (c : Nat), lastO (some c) l ≠ none := by
    intro l
    induction l with
    | nil => intro c h; cases h
    | cons d l ih => intro c h; exact ih d h
  cases pre with
  | nil => rfl
  | cons c l => exact absurd h (go l c)
theorem lastO_app (p : Option Nat) (a b : List Nat) : lastO p (a ++ b) = lastO (lastO p a) b := by
  induction a generalizing p with
  | nil => rfl
  | cons c a ih => exact ih _
theorem lastO_ne {w : List Nat} (h : w ≠ []) (p q : Option Nat) : lastO p w = lastO q w := by
  cases w with
  | nil => exact absurd rfl h
  | cons c w => rfl
abbrev aC : E := .cmp .lt (.var 2) (.blt .len (.cons false (.var 0) .nil))
abbrev aB : Ss := (.cons (.ifS (.cmp .eq (.idx (.var 0) (.var 2)) (.cst (.str [32]))) (.cons (.aug 2 .add (.cst (.int 1))) (.cons .cnt .nil)) .nil) (.cons (.asg (.one 3) (.call 10 (.cons false (.var 0) (.cons false (.var 2) .nil)))) (.cons (.ifS (.cmp .is (.var 3) (.cst (.non))) (.cons (.ret (.cst (.non))) .nil) .nil) (.cons (.ifS (.and (.cmp .gt (.var 2) (.cst (.int 0))) (.and (.cmp .notin (.idx (.var 0) (.bin .sub (.var 2) (.cst (.int 1)))) (.cst (.str [32, 40, 41]))) (.cmp .notin (.idx (.var 0) (.var 2)) (.cst (.str [40, 41]))))) (.cons (.app 1 (.e (.cst (.str [])))) .nil) .nil) (.cons (.app 1 (.e (.slc (.var 0) (.var 2) (.var 3)))) (.cons (.asg (.one 2) (.var 3)) .nil))))))
/-- one word -/
theorem word_turn (k : Nat) {T pre w post : List Nat} {c : Nat} {r : List Nat} (hT : T = pre ++ (w ++ post)) (hz : T.length ≤ szl) (hw : w = c :: r) (hc : c ≠ 32) (he : wEnd c (r ++ post) = some w.length) (hp : openB (lastO none pre) = true ∨ c = 40 ∨ c = 41) (ds : List D) (hd : ds.length < szl) (s3 s4 s5 s6 s7 : Slot) :
    evSs (callF pr (k + 2)) aB [.val (.str T), .own (.lst ds), .val (.int pre.length), s3, s4, s5, s6, s7] = .nx [.val (.str T), .own (.lst (ds ++ [.str w])), .val (.int (pre.length + w.length)), .val (.int (pre.length + w.length)), s4, s5, s6, s7] := by
  subst hw
  have hT2 : T = pre ++ c :: (r ++ post) := by rw [hT]; simp
  have hix : idxD (.str T) (.int pre.length) = some (.str [c]) := by rw [hT2]; exact idx_at _ _ _ (by rw [← hT2]; exact hz)
  have hwe := word_end k (pre := pre) (c := c) (r := r ++ post) (by rw [← hT2]; exact hz) he
  rw [← hT2] at hwe
  have b1 : (c == 32) = false := by simp [hc]
  have hcut := cut_mid pre (c :: r) post
  rw [← hT] at hcut
  have hif : ∀ s3', truthR (evE (callF pr (k + 2)) (.and (.cmp .gt (.var 2) (.cst (.int 0))) (.and (.cmp .notin (.idx (.var 0) (.bin .sub (.var 2) (.cst (.int 1)))) (.cst (.str [32, 40, 41]))) (.cmp .notin (.idx (.var 0) (.var 2)) (.cst (.str [40, 41]))))) [.val (.str T), .own (.lst ds), .val (.int pre.length), s3', s4, s5, s6, s7]) = .ok false := by
    intro s3'
    cases hl : lastO none pre with
    | none =>
      have := last_none hl
      subst this
      simp [getV, gt_int]
    | some d =>
      obtain ⟨q, rfl⟩ := last_get hl
      rw [hl] at hp
      have e1 : (((q ++ [d]).length : Int) - 1) = (q.length : Int) := by simp
      have hix2 : idxD (.str T) (.int q.length) = some (.str [d]) := by
        have e : T = q ++ d :: (c :: (r ++ post)) := by rw [hT2]; simp
        rw [e]; exact idx_at _ _ _ (by rw [← e]; exact hz)
      have g1 : evE (callF pr (k + 2)) (.cmp .gt (.var 2) (.cst (.int 0))) [.val (.str T), .own (.lst ds), .val (.int (q ++ [d]).length), s3', s4, s5, s6, s7] = .ok (.v, .bl true) := by
        simp only [e_cmp, e_var, e_cst]
        simp [getV, gt_int]
      have g2 : evE (callF pr (k + 2)) (.cmp .notin (.idx (.var 0) (.bin .sub (.var 2) (.cst (.int 1)))) (.cst (.str [32, 40, 41]))) [.val (.str T), .own (.lst ds), .val (.int (q ++ [d]).length), s3', s4, s5, s6, s7] = .ok (.v, .bl (!decide (d ∈ [32, 40, 41]))) := by
        have h1 : evE (callF pr (k + 2)) (.bin .sub (.var 2) (.cst (.int 1))) [.val (.str T), .own (.lst ds), .val (.int (q ++ [d]).length), s3', s4, s5, s6, s7] = .ok (.v, .int q.length) := by
          rw [← e1]; rfl
        rw [e_cmp, e_idx, h1]
        simp only [e_var, e_cst]
        simp [getV, hix2, notin_str, inS1]
      have g3 : evE (callF pr (k + 2)) (.cmp .notin (.idx (.var 0) (.var 2)) (.cst (.str [40, 41]))) [.val (.str T), .own (.lst ds), .val (.int (q ++ [d]).length), s3', s4, s5, s6, s7] = .ok (.v, .bl (!decide (c ∈ [40, 41]))) := by
        have h1 : evE (callF pr (k + 2)) (.idx (.var 0) (.var 2)) [.val (.str T), .own (.lst ds), .val (.int (q ++ [d]).length), s3', s4, s5, s6, s7] = .ok (.v, .str [c]) := by
          show okV (idxD (.str T) (.int (q ++ [d]).length)) = _
          rw [hix]; rfl
        rw [e_cmp, h1]
        simp [notin_str, inS1]
      rw [e_and, g1]
      simp only [b_ok, tr_bl]
      rw [e_and, g2]
      simp only [b_ok, tr_bl]
      rcases hp with hp | hp
      · have : decide (d ∈ [32, 40, 41]) = true := by
          simp only [openB, Bool.or_eq_true, decide_eq_true_eq] at hp
          simp
          omega
        rw [this]
        rfl
      · have : decide (c ∈ [40, 41]) = true := by simpa using hp
        cases hd2 : decide (d ∈ [32, 40, 41]) with
        | true => rfl
        | false =>
          simp only [Bool.not_false]
          rw [g3, this]
          rfl
  have hidx : evE (callF pr (k + 2)) (.idx (.var 0) (.var 2)) [.val (.str T), .own (.lst ds), .val (.int pre.length), s3, s4, s5, s6, s7] = .ok (.v, .str [c]) := by
    show okV (idxD (.str T) (.int pre.length)) = _
    rw [hix]; rfl
  have i1 : truthR (evE (callF pr (k + 2)) (.cmp .eq (.idx (.var 0) (.var 2)) (.cst (.str [32]))) [.val (.str T), .own (.lst ds), .val (.int pre.length), s3, s4, s5, s6, s7]) = .ok false := by
    rw [e_cmp, hidx]
    simp [eq_str, hc]
  have t1 : evS (callF pr (k + 2)) (.asg (.one 3) (.call 10 (.cons false (.var 0) (.cons false (.var 2) .nil)))) [.val (.str T), .own (.lst ds), .val (.int pre.length), s3, s4, s5, s6, s7] = .nx [.val (.str T), .own (.lst ds), .val (.int pre.length), .val (.int (pre.length + (c :: r).length)), s4, s5, s6, s7] := by
    rw [s_asg, e_call]
    simp only [es_cons, es_nil, e_var]
    simp [getV, hwe]
  have t4 : evS (callF pr (k + 2)) (.app 1 (.e (.slc (.var 0) (.var 2) (.var 3)))) [.val (.str T), .own (.lst ds), .val (.int pre.length), .val (.int (pre.length + (c :: r).length)), s4, s5, s6, s7] = .nx [.val (.str T), .own (.lst (ds ++ [.str (c :: r)])), .val (.int pre.length), .val (.int (pre.length + (c :: r).length)), s4, s5, s6, s7] := by
    rw [s_app, m_e, e_slc]
    simp only [e_var]
    have hcut' := hcut
    simp only [List.length_cons] at hcut'
    simp [getV, getOwn, partOf, slcD, hz, hd]
    simpa using hcut'
  rw [ss_nx (ρ' := [.val (.str T), .own (.lst ds), .val (.int pre.length), s3, s4, s5, s6, s7]) (by rw [if_f i1]; rfl), ss_nx t1, ss_nx (ρ' := [.val (.str T), .own (.lst ds), .val (.int pre.length), .val (.int (pre.length + (c :: r).length)), s4, s5, s6, s7]) (by rw [if_f (by rfl)]; rfl),
    ss_nx (ρ' := [.val (.str T), .own (.lst ds), .val (.int pre.length), .val (.int (pre.length + (c :: r).length)), s4, s5, s6, s7]) (by rw [if_f (hif _)]; rfl), ss_nx t4]
  rfl
theorem words_loop (k : Nat) {T : List Nat} (hz : T.length ≤ szl) (s4 s5 s6 s7 : Slot) : ∀ (L : Lay) (n : Nat) (pre : List Nat) (ds : List D) (s3 : Slot), T = pre ++ txt L → good (lastO none pre) L → (txt L).length < n → ds.length + L.length < szl →
    ∃ s3', loopW (callF pr (k + 2)) aC aB n [.val (.str T), .own (.lst ds), .val (.int pre.length), s3, s4, s5, s6, s7] = .nx [.val (.str T), .own (.lst (ds ++ L.map fun x => .str x.2)), .val (.int T.length), s3', s4, s5, s6, s7] := by
  intro L
  induction L with
  | nil =>
    intro n pre ds s3 hT _ hn _
    cases n with
    | zero => omega
    | succ n =>
      have e : T.length = pre.length := by rw [hT]; simp [txt]
      have c1 : truthR (evE (callF pr (k + 2)) aC [.val (.str T), .own (.lst ds), .val (.int pre.length), s3, s4, s5, s6, s7]) = .ok false := by
        simp [getV, len_str hz, lt_int, e]
      rw [lw_f c1]
      exact ⟨s3, by simp [e]⟩
  | cons x L ih =>
    obtain ⟨b, w⟩ := x
    intro n pre ds s3 hT hg hn hd
    obtain ⟨c, r, hw, hc, he, hp, hg2⟩ := hg
    have wne : w ≠ [] := by rw [hw]; nofun
    have wpos : 1 ≤ w.length := by rw [hw]; simp
    simp only [List.length_cons] at hd
    -- the word itself, at pre2
    have word : ∀ (n : Nat) (pre2 : List Nat) (s3 : Slot), T = pre2 ++ (w ++ txt L) → (openB (lastO none pre2) = true ∨ c = 40 ∨ c = 41) → (txt L).length + 1 < n →
        ∃ s3', loopW (callF pr (k + 2)) aC aB n [.val (.str T), .own (.lst ds), .val (.int pre2.length), s3, s4, s5, s6, s7] = .nx [.val (.str T), .own (.lst (ds ++ ((b, w) :: L).map fun x => .str x.2)), .val (.int T.length), s3', s4, s5, s6, s7] := by
      intro n pre2 s3 hT2 hp2 hn2
      cases n with
      | zero => omega
      | succ n =>
        have hlt : (pre2.length : Int) < (T.length : Int) := by rw [hT2]; simp only [List.length_append]; omega
        have c1 : truthR (evE (callF pr (k + 2)) aC [.val (.str T), .own (.lst ds), .val (.int pre2.length), s3, s4, s5, s6, s7]) = .ok true := by
          simp [getV, len_str hz, lt_int, hlt]
        have tn := word_turn k hT2 hz hw hc he hp2 ds (by omega) s3 s4 s5 s6 s7
        rw [lw_t c1, tn]
        have hT3 : T = (pre2 ++ w) ++ txt L := by rw [hT2]; simp
        have hl : lastO none (pre2 ++ w) = lastO none w := by rw [lastO_app]; exact lastO_ne wne _ _
        obtain ⟨s3', h⟩ := ih n (pre2 ++ w) (ds ++ [.str w]) (.val (.int (pre2.length + w.length))) hT3 (by rw [hl]; exact hg2) (by omega) (by simp; omega)
        simp only [List.length_append, Int.natCast_add] at h
        refine ⟨s3', ?_⟩
        dsimp only
        rw [h]
        simp
    cases b with
    | false => exact word n pre s3 hT (by simpa using hp) (by simp only [txt, List.length_append] at hn; omega)
    | true =>
      cases n with
      | zero => omega
      | succ n =>
        simp only [txt, List.length_cons, List.length_append] at hn
        have hlt : (pre.length : Int) < (T.length : Int) := by rw [hT]; simp only [txt, List.length_append, List.length_cons]; omega
        have c1 : truthR (evE (callF pr (k + 2)) aC [.val (.str T), .own (.lst ds), .val (.int pre.length), s3, s4, s5, s6, s7]) = .ok true := by
          simp [getV, len_str hz, lt_int, hlt]
        have hix : idxD (.str T) (.int pre.length) = some (.str [32]) := by
          have e : T = pre ++ 32 :: (w ++ txt L) := by rw [hT]; rfl
          rw [e]; exact idx_at _ _ _ (by rw [← e]; exact hz)
        have tn : evSs (callF pr (k + 2)) aB [.val (.str T), .own (.lst ds), .val (.int pre.length), s3, s4, s5, s6, s7] = .ct [.val (.str T), .own (.lst ds), .val (.int (pre.length + 1)), s3, s4, s5, s6, s7] := by
          have i1 : truthR (evE (callF pr (k + 2)) (.cmp .eq (.idx (.var 0) (.var 2)) (.cst (.str [32]))) [.val (.str T), .own (.lst ds), .val (.int pre.length), s3, s4, s5, s6, s7]) = .ok true := by
            have h1 : evE (callF pr (k + 2)) (.idx (.var 0) (.var 2)) [.val (.str T), .own (.lst ds), .val (.int pre.length), s3, s4, s5, s6, s7] = .ok (.v, .str [32]) := by
              show okV (idxD (.str T) (.int pre.length)) = _
              rw [hix]; rfl
            rw [e_cmp, h1]
            rfl
          rw [ss_ct (ρ' := [.val (.str T), .own (.lst ds), .val (.int (pre.length + 1)), s3, s4, s5, s6, s7])]
          rw [if_t i1]
          simp [augD]
        rw [lw_t c1, tn]
        dsimp only
        have e1 : ((pre.length : Int) + 1) = (((pre ++ [32]).length : Nat) : Int) := by simp
        rw [e1]
        refine word n (pre ++ [32]) s3 (by rw [hT]; simp [txt]) (.inl ?_) (by omega)
        rw [lastO_app]
        rfl
/-- ASK_WORDS -/
theorem ask_words (k : Nat) {L : Lay} (hz : (txt L).length ≤ szl) (hp : printable (txt L) = true) (hg : good none L) (hl : L.length < szl) : callF pr (k + 3) 12 [.str (txt L)] = .ok (.f, .lst (L.map fun x => .str x.2), []) := by
  rw [cf (fn := f12) rfl rfl]
  have hos := other_signs (k + 1) hp hz
  obtain ⟨s3, h⟩ := words_loop k hz .none .none .none .none L wfuel [] [] .none rfl hg (by
    have := wf_big
    unfold szl at hz
    omega) (by simpa using hl)
  have i1 : truthR (evE (callF pr (k + 2)) (.call 11 (.cons false (.var 0) .nil)) (startF f12 [.str (txt L)])) = .ok false := by
    rw [e_call]
    simp [startF, f12, getV, hos]
  show Ev.finish f12 (evSs (callF pr (k + 2)) (.cons (.ifS (.call 11 (.cons false (.var 0) .nil)) (.cons (.ret (.cst (.non))) .nil) .nil) (.cons (.asg (.one 1) (.lst .nil)) (.cons (.asg (.one 2) (.cst (.int 0))) (.cons (.whl aC aB) (.cons (.ret (.var 1)) .nil))))) (startF f12 [.str (txt L)])) = _
  rw [ss_nx (ρ' := startF f12 [.str (txt L)]) (by rw [if_f i1]; rfl), ss_nx (ρ' := [.val (.str (txt L)), .own (.lst []), .none, .none, .none, .none, .none, .none]) (by rfl), ss_nx (ρ' := [.val (.str (txt L)), .own (.lst []), .val (.int 0), .none, .none, .none, .none, .none]) (by rfl), ss_nx (by rw [s_whl]; exact h)]
  simp [getV, f12]
end K12
end

section
set_option linter.all false
set_option maxRecDepth 100000
set_option maxHeartbeats 400000
/-! K12w: the words of the law's rows; binding. -/
namespace K12
open Ev
abbrev W := List Nat
def AH : List W := [[110, 111, 116], [110, 101, 101, 100, 115]]
def JO : List W := [[97, 110, 100], [111, 114]]
def BA : List W := [[97, 108, 108], [110, 111, 110, 101], [116, 111, 112, 115]]
def LK : List W := [[98, 121], [116, 97, 103], [105, 100], [117, 110, 100, 101, 114], [111, 118, 101, 114], [102, 105, 108, 101], [116, 101, 120, 116]]
def LE : List W := BA ++ LK
/-- the words that rows are made of -/
def VV : List W := [[110, 111, 116], [110, 101, 101, 100, 115], [97, 110, 100], [111, 114], [97, 108, 108], [110, 111, 110, 101], [116, 111, 112, 115], [98, 121], [116, 97, 103], [105, 100], [117, 110, 100, 101, 114], [111, 118, 101, 114], [102, 105, 108, 101], [116, 101, 120, 116], [40], [41], [97, 100, 97], [98, 101, 110], [99, 97, 121], [97, 100, 97, 46, 49], [97, 100, 97, 46, 50], [97, 100, 97, 46, 51], [97, 100, 97, 46, 52], [98, 101, 110, 46, 49], [98, 101, 110, 46, 50], [98, 101, 110, 46, 51], [98, 101, 110, 46, 52], [99, 97, 121, 46, 49], [99, 97, 121, 46, 50], [99, 97, 121, 46, 51], [99, 97, 121, 46, 52], [97], [98], [97, 47, 98], [39, 120, 39], [39, 105, 116, 92, 39, 115, 39], [39, 97, 92, 92, 98, 39], [118], [119], [97, 100, 97, 46, 48], [97, 100, 97, 46, 49, 48, 48, 48]]

theorem lift {k m j : Nat} {ds : List D} {a : Kd × D × List D} (h : callF pr k j ds = .ok a) (hm : k ≤ m) : callF pr m j ds = .ok a := callF_more h nofun hm
theorem liftX {k m j : Nat} {ds : List D} {x : Nat} {d : D} (h : callF pr k j ds = .exn x d) (hm : k ≤ m) : callF pr m j ds = .exn x d := callF_more h nofun hm
theorem inL_str (w : W) : ∀ l : List W, inL (.str w) (l.map .str) = decide (w ∈ l)
  | [] => by simp [inL]
  | v :: l => by
    simp only [List.map_cons, inL, inL_str w l, List.mem_cons, eqD]
    by_cases h : w = v
    · subst h; simp
    · have : (v == w) = false := by simp; exact fun e => h e.symm
      simp [h, this]
theorem flat_str (l : List W) : (l.map D.str).all flatD = true := by
  induction l with
  | nil => rfl
  | cons a l ih => simp [flatD, ih]
theorem isin_tup (w : W) (l : List W) : cmpD .isin (.str w) (.tup (l.map .str)) = some (decide (w ∈ l)) := by
  simp only [cmpD, isinD, flat_str, inL_str, flatD, Bool.and_self, if_true]
theorem notin_tup (w : W) (l : List W) : cmpD .notin (.str w) (.tup (l.map .str)) = some (!decide (w ∈ l)) := by
  simp only [cmpD, isinD, flat_str, inL_str, flatD, Bool.and_self, if_true, Option.map_some]
theorem isin_lst (w : W) (l : List W) : cmpD .isin (.str w) (.lst (l.map .str)) = some (decide (w ∈ l)) := by
  simp only [cmpD, isinD, flat_str, inL_str, flatD, Bool.and_self, if_true]

/-! ### bind -/
def bindM (set : List W) : List W → List D → Option (List W × List D)
  | [], A => some ([], A)
  | w :: H, A => if w ∈ set then (match A with
      | [] => none
      | last :: A => if w ∈ AH then bindM set H (.tup [.str w, last] :: A) else (match A with
          | [] => none
          | x :: A => bindM set H (.tup [.str w, x, last] :: A))) else some (w :: H, A)
def lW (H : List W) : D := .lst (H.reverse.map .str)
def lD (A : List D) : D := .lst A.reverse
abbrev bC : E := .and (.var 0) (.cmp .isin (.idx (.var 0) (.neg (.cst (.int 1)))) (.var 2))
abbrev bB : Ss := .cons (.asgM 3 (.pop 0)) (.cons (.asgM 4 (.pop 1)) (.cons (.ifS (.cmp .isin (.var 3) (.cst (.tup [.str [110, 111, 116], .str [110, 101, 101, 100, 115]]))) (.cons (.app 1 (.e (.tup (.cons false (.var 3) (.cons false (.var 4) .nil))))) .nil) (.cons (.app 1 (.tup3 (.var 3) (.pop 1) (.var 4))) .nil)) .nil))
theorem last_ix (l : List D) (d : D) : idxD (.lst (l ++ [d])) (.int (-1)) = some d := by
  have h : ixD (l ++ [d]).length (-1) = some l.length := by
    unfold ixD
    have h1 : ¬ (0 : Int) ≤ -1 := by omega
    have h2 : -(((l ++ [d]).length : Nat) : Int) ≤ -1 := by simp; omega
    simp only [h1, h2, if_false, if_true]
    congr 1
    simp
    omega
  simp only [ix_lst, h]
  simp
theorem bind_loop {cl : Cl} (set : List W) : ∀ (n : Nat) (H : List W) (A : List D) (H' : List W) (A' : List D) (s3 s4 s5 s6 s7 s8 : Slot), bindM set H A = some (H', A') → H.length < n → A.length < szl →
    ∃ s3' s4', loopW cl bC bB n [.own (lW H), .own (lD A), .val (.tup (set.map .str)), s3, s4, s5, s6, s7, s8] = .nx [.own (lW H'), .own (lD A'), .val (.tup (set.map .str)), s3', s4', s5, s6, s7, s8] := by
  intro n
  induction n with
  | zero => intro H; intros; omega
  | succ n ih =>
    intro H A H' A' s3 s4 s5 s6 s7 s8 hb hn hz
    cases H with
    | nil =>
      simp only [bindM] at hb
      cases hb
      have c1 : truthR (evE cl bC [.own (lW []), .own (lD A), .val (.tup (set.map .str)), s3, s4, s5, s6, s7, s8]) = .ok false := rfl
      rw [lw_f c1]
      exact ⟨s3, s4, rfl⟩
    | cons w H =>
      have el : lW (w :: H) = .lst (H.reverse.map .str ++ [.str w]) := by simp [lW]
      have c0 : evE cl (.cmp .isin (.idx (.var 0) (.neg (.cst (.int 1)))) (.var 2)) [.own (lW (w :: H)), .own (lD A), .val (.tup (set.map .str)), s3, s4, s5, s6, s7, s8] = .ok (.v, .bl (decide (w ∈ set))) := by
        rw [el]
        have h1 : evE cl (.idx (.var 0) (.neg (.cst (.int 1)))) [.own (.lst (H.reverse.map .str ++ [.str w])), .own (lD A), .val (.tup (set.map .str)), s3, s4, s5, s6, s7, s8] = .ok (.v, .str w) := by
          show okV (idxD (.lst (H.reverse.map .str ++ [.str w])) (.int (-1))) = _
          rw [last_ix]; rfl
        rw [e_cmp, h1]
        show (match cmpD .isin (.str w) (.tup (set.map .str)) with | some r => R.ok (Kd.v, D.bl r) | none => .stuck) = _
        rw [isin_tup]
      have c1 : truthR (evE cl bC [.own (lW (w :: H)), .own (lD A), .val (.tup (set.map .str)), s3, s4, s5, s6, s7, s8]) = .ok (decide (w ∈ set)) := by
        rw [e_and]
        have : evE cl (.var 0) [.own (lW (w :: H)), .own (lD A), .val (.tup (set.map .str)), s3, s4, s5, s6, s7, s8] = .ok (.b, lW (w :: H)) := rfl
        rw [this, el]
        simp only [b_ok, tr_lst]
        rw [← el, c0]
        have : (!(H.reverse.map D.str ++ [D.str w]).isEmpty) = true := by simp
        rw [this]
        rfl
      simp only [bindM] at hb
      by_cases hw : w ∈ set
      · rw [if_pos hw] at hb
        rw [decide_eq_true hw] at c1
        cases A with
        | nil => cases hb
        | cons last A =>
          dsimp only at hb
          simp only [List.length_cons] at hn hz
          have ea : lD (last :: A) = .lst (A.reverse ++ [last]) := by simp [lD]
          have t1 : evS cl (.asgM 3 (.pop 0)) [.own (lW (w :: H)), .own (lD (last :: A)), .val (.tup (set.map .str)), s3, s4, s5, s6, s7, s8] = .nx [.own (lW H), .own (lD (last :: A)), .val (.tup (set.map .str)), .val (.str w), s4, s5, s6, s7, s8] := by
            rw [el]; simp [lW]
          have t2 : evS cl (.asgM 4 (.pop 1)) [.own (lW H), .own (lD (last :: A)), .val (.tup (set.map .str)), .val (.str w), s4, s5, s6, s7, s8] = .nx [.own (lW H), .own (lD A), .val (.tup (set.map .str)), .val (.str w), .val last, s5, s6, s7, s8] := by
            rw [ea]; simp [lD]
          have i1 : truthR (evE cl (.cmp .isin (.var 3) (.cst (.tup [.str [110, 111, 116], .str [110, 101, 101, 100, 115]]))) [.own (lW H), .own (lD A), .val (.tup (set.map .str)), .val (.str w), .val last, s5, s6, s7, s8]) = .ok (decide (w ∈ AH)) := by
            show truthR (match cmpD .isin (.str w) (.tup (AH.map .str)) with | some r => R.ok (Kd.v, D.bl r) | none => .stuck) = _
            rw [isin_tup]; rfl
          by_cases ha : w ∈ AH
          · rw [if_pos ha] at hb
            rw [decide_eq_true ha] at i1
            have t3 : evSs cl bB [.own (lW (w :: H)), .own (lD (last :: A)), .val (.tup (set.map .str)), s3, s4, s5, s6, s7, s8] = .nx [.own (lW H), .own (lD (.tup [.str w, last] :: A)), .val (.tup (set.map .str)), .val (.str w), .val last, s5, s6, s7, s8] := by
              rw [ss_nx t1, ss_nx t2, ss_nx (ρ' := [.own (lW H), .own (lD (.tup [.str w, last] :: A)), .val (.tup (set.map .str)), .val (.str w), .val last, s5, s6, s7, s8])]
              · rfl
              · rw [if_t i1]
                have hz2 : A.length < szl := by omega
                have h2 : (2 : Nat) ≤ szl := by decide
                simp [lD, getOwn, getV, hz2, h2]
            rw [lw_t c1, t3]
            exact ih H (.tup [.str w, last] :: A) H' A' _ _ _ _ _ _ hb (by omega) (by simp only [List.length_cons]; omega)
          · rw [if_neg ha] at hb
            rw [decide_eq_false ha] at i1
            cases A with
            | nil => cases hb
            | cons x A =>
              dsimp only at hb
              simp only [List.length_cons] at hz
              have t3 : evSs cl bB [.own (lW (w :: H)), .own (lD (last :: x :: A)), .val (.tup (set.map .str)), s3, s4, s5, s6, s7, s8] = .nx [.own (lW H), .own (lD (.tup [.str w, x, last] :: A)), .val (.tup (set.map .str)), .val (.str w), .val last, s5, s6, s7, s8] := by
                rw [ss_nx t1, ss_nx t2, ss_nx (ρ' := [.own (lW H), .own (lD (.tup [.str w, x, last] :: A)), .val (.tup (set.map .str)), .val (.str w), .val last, s5, s6, s7, s8])]
                · rfl
                · rw [if_f i1]
                  have hz2 : A.length < szl := by omega
                  simp [lD, getOwn, getV, hz2]
              rw [lw_t c1, t3]
              exact ih H (.tup [.str w, x, last] :: A) H' A' _ _ _ _ _ _ hb (by omega) (by simp only [List.length_cons]; omega)
      · rw [if_neg hw] at hb
        cases hb
        rw [decide_eq_false hw] at c1
        rw [lw_f c1]
        exact ⟨s3, s4, rfl⟩
/-- BIND -/
theorem bind_ir (k : Nat) {set : List W} {H H' : List W} {A A' : List D} (hb : bindM set H A = some (H', A')) (hz : H.length < szl) (hz2 : A.length < szl) : callF pr (k + 1) 26 [lW H, lD A, .tup (set.map .str)] = .ok (.v, .non, [lW H', lD A']) := by
  rw [cf (fn := f26) rfl rfl]
  obtain ⟨s3, s4, h⟩ := bind_loop (cl := callF pr k) set wfuel H A H' A' .none .none .none .none .none .none hb (by
    have := wf_big
    unfold szl at hz
    omega) hz2
  show Ev.finish f26 (evSs (callF pr k) (.cons (.whl bC bB) .nil) [.own (lW H), .own (lD A), .val (.tup (set.map .str)), .none, .none, .none, .none, .none, .none]) = _
  rw [ss_nx (by rw [s_whl]; exact h)]
  rfl
end K12
end

section
set_option linter.all false
set_option maxRecDepth 100000
set_option maxHeartbeats 400000
/-! K12x: the reading of words. -/
namespace K12
open Ev
def ALL4 : List W := AH ++ JO
def closeM (H : List W) (A : List D) : Option (List W × List D) := match bindM ALL4 H A with
  | some (_ :: H, A) => bindM AH H A
  | _ => none
theorem bindM_len {set : List W} : ∀ {H H' : List W} {A A' : List D}, bindM set H A = some (H', A') → H'.length ≤ H.length ∧ A'.length ≤ A.length
  | [], H', A, A', h => by simp only [bindM] at h; cases h; simp
  | w :: H, H', A, A', h => by
    simp only [bindM] at h
    split at h
    · split at h
      · cases h
      · rename_i last A0
        split at h
        · have := bindM_len h
          simp only [List.length_cons] at *
          omega
        · split at h
          · cases h
          · have := bindM_len h
            simp only [List.length_cons] at *
            omega
    · cases h; simp
/-- a call of bind, as a statement -/
theorem bind_st {cl : Cl} {pre : List Slot} (post : List Slot) {set : List W} {H H' : List W} {A A' : List D} {e : E} (he : evE cl e (pre ++ .own (lW H) :: .own (lD A) :: post) = .ok (.v, .tup (set.map .str))) (hc : cl 26 [lW H, lD A, .tup (set.map .str)] = .ok (.v, .non, [lW H', lD A'])) :
    evS cl (.io 26 [pre.length, pre.length + 1] (.cons false e .nil)) (pre ++ .own (lW H) :: .own (lD A) :: post) = .nx (pre ++ .own (lW H') :: .own (lD A') :: post) := by
  have g1 : getOwns (pre ++ .own (lW H) :: .own (lD A) :: post) [pre.length, pre.length + 1] = some [lW H, lD A] := by
    have h1 : (pre ++ Slot.own (lW H) :: Slot.own (lD A) :: post)[pre.length]? = some (.own (lW H)) := by simp
    have h2 : (pre ++ Slot.own (lW H) :: Slot.own (lD A) :: post)[pre.length + 1]? = some (.own (lD A)) := by
      rw [List.getElem?_append_right (by omega)]
      simp
    unfold lW at h1
    unfold lD at h2
    simp only [getOwns, getOwn]
    unfold lW lD
    rw [show (pre ++ Slot.own (.lst (H.reverse.map .str)) :: Slot.own (.lst A.reverse) :: post)[pre.length]? = _ from h1, show (pre ++ Slot.own (.lst (H.reverse.map .str)) :: Slot.own (.lst A.reverse) :: post)[pre.length + 1]? = _ from h2]
  have s1 : setOwns (pre ++ .own (lW H) :: .own (lD A) :: post) [pre.length, pre.length + 1] [lW H', lD A'] = pre ++ .own (lW H') :: .own (lD A') :: post := by
    simp only [setOwns]
    have h1 : (pre ++ Slot.own (lW H) :: Slot.own (lD A) :: post).set pre.length (.own (lW H')) = pre ++ .own (lW H') :: .own (lD A) :: post := by simp
    rw [h1]
    have h2 : pre ++ Slot.own (lW H') :: Slot.own (lD A) :: post = (pre ++ [Slot.own (lW H')]) ++ Slot.own (lD A) :: post := by simp
    rw [h2]
    have h3 : pre.length + 1 = (pre ++ [Slot.own (lW H')]).length := by simp
    rw [h3, List.set_append_right _ _ (Nat.le_refl _)]
    simp
  have nd : ([pre.length, pre.length + 1] : List Nat).Nodup := by simp
  rw [s_io, if_pos nd, g1, es_cons, he]
  simp only [b_ok, st_f, es_nil, List.append_nil, o_ok, so_v, so_nil, List.cons_append, List.nil_append]
  rw [hc]
  simp only [o_ok, List.length_cons, List.length_nil, if_true]
  rw [s1]
/-- CLOSE_BRACKET -/
theorem close_ir (k : Nat) {H H' : List W} {A A' : List D} (hb : closeM H A = some (H', A')) (hz : H.length < szl) (hz2 : A.length < szl) : callF pr (k + 2) 27 [lW H, lD A] = .ok (.v, .non, [lW H', lD A']) := by
  rw [cf (fn := f27) rfl rfl]
  unfold closeM at hb
  split at hb
  · rename_i w H1 A1 e1
    have l1 := bindM_len e1
    simp only [List.length_cons] at l1
    have c1 := bind_ir k e1 hz hz2
    have c2 := bind_ir k hb (by omega) (by omega)
    have t1 := bind_st (cl := callF pr (k + 1)) (pre := []) [.none, .none, .none, .none] (set := ALL4) (H := H) (A := A) (e := .tup (.cons false (.cst (.str [110, 111, 116])) (.cons false (.cst (.str [110, 101, 101, 100, 115])) (.cons false (.cst (.str [97, 110, 100])) (.cons false (.cst (.str [111, 114])) .nil))))) rfl c1
    have t3 := bind_st (cl := callF pr (k + 1)) (pre := []) [.none, .none, .none, .none] (set := AH) (H := H1) (A := A1) (e := .cst (.tup [.str [110, 111, 116], .str [110, 101, 101, 100, 115]])) rfl c2
    simp only [List.length_nil, List.nil_append, Nat.zero_add] at t1 t3
    show Ev.finish f27 (evSs (callF pr (k + 1)) (.cons _ (.cons _ (.cons _ .nil))) [.own (lW H), .own (lD A), .none, .none, .none, .none]) = _
    rw [ss_nx t1, ss_nx (ρ' := [.own (lW H1), .own (lD A1), .none, .none, .none, .none]) (by
      have : lW (w :: H1) = .lst (H1.reverse.map .str ++ [.str w]) := by simp [lW]
      rw [this]
      simp [lW]), ss_nx t3]
    rfl
  · cases hb
/-! ### parse_ask -/
/-- how read_leaf takes a word and its fellow -/
def rl (w v : W) : Option D := match callF pr 30 25 [.lst [.str w, .str v]] with
  | .ok (_, .tup ds, _) => some (.tup ds)
  | _ => none
def rlB (v : W) : Bool := LK.all fun w => match callF pr 30 25 [.lst [.str w, .str v]] with
  | .ok (.v, .tup _, []) => true
  | .ok (.v, .non, []) => true
  | _ => false
theorem rl_ok {w v : W} (hv : rlB v = true) (hw : w ∈ LK) {k : Nat} (hk : 30 ≤ k) : callF pr k 25 [.lst [.str w, .str v]] = .ok (.v, (rl w v).getD .non, []) ∧ ∀ d, rl w v = some d → isNonD d = false := by
  have h := List.all_eq_true.mp hv w hw
  unfold rl
  split at h
  · rename_i ds e
    rw [e]
    exact ⟨lift e hk, fun d hd => by cases hd; rfl⟩
  · rename_i e
    rw [e]
    exact ⟨lift e hk, fun d hd => by cases hd⟩
  · cases h
theorem leaf1_bare : BA.all (fun w => match callF pr 30 25 [.lst [.str w]] with | .ok (.v, .tup [.str v], []) => decide (v = w) | _ => false) = true := by decide +kernel
theorem leaf1_kind : LK.all (fun w => match callF pr 30 25 [.lst [.str w]] with | .ok (.v, .non, []) => true | _ => false) = true := by decide +kernel
theorem bare_ok {w : W} (hw : w ∈ BA) {k : Nat} (hk : 30 ≤ k) : callF pr k 25 [.lst [.str w]] = .ok (.v, .tup [.str w], []) := by
  have h := List.all_eq_true.mp leaf1_bare w hw
  split at h
  · rename_i v e
    have := of_decide_eq_true h
    subst this
    exact lift e hk
  · cases h
theorem kind_ok {w : W} (hw : w ∈ LK) {k : Nat} (hk : 30 ≤ k) : callF pr k 25 [.lst [.str w]] = .ok (.v, .non, []) := by
  have h := List.all_eq_true.mp leaf1_kind w hw
  split at h
  · rename_i e
    exact lift e hk
  · cases h
theorem rlB_all : VV.all rlB = true := by decide +kernel
end K12
end

section
set_option linter.all false
set_option maxRecDepth 100000
set_option maxHeartbeats 400000
/-! K12y: parse_ask. -/
namespace K12
open Ev
abbrev Pc : E := (.cmp .lt (.var 5) (.blt .len (.cons false (.var 1) .nil)))
abbrev Pc4 : E := (.and (.not (.var 6)) (.and (.cmp .eq (.var 7) (.cst (.str [41]))) (.cmp .isin (.cst (.str [40])) (.var 2))))
abbrev Pb4 : Ss := (.cons (.io 27 [2, 3] .nil) .nil)
abbrev Pe4 : Ss := (.cons (.rais 1 (.var 5)) .nil)
abbrev Pc3 : E := (.and (.not (.var 6)) (.cmp .isin (.var 7) (.cst (.tup [.str [97, 110, 100], .str [111, 114]]))))
abbrev Pb3 : Ss := (.cons (.io 26 [2, 3] (.cons false (.ite (.cmp .eq (.var 7) (.cst (.str [97, 110, 100]))) (.tup (.cons false (.cst (.str [97, 110, 100])) .nil)) (.cst (.tup [.str [97, 110, 100], .str [111, 114]]))) .nil)) (.cons (.app 2 (.e (.var 7))) (.cons (.asg (.one 6) (.cst (.bl true))) .nil)))
abbrev Pc2 : E := (.and (.var 6) (.or (.cmp .eq (.var 7) (.cst (.str [40]))) (.cmp .isin (.var 7) (.cst (.tup [.str [110, 111, 116], .str [110, 101, 101, 100, 115]])))))
abbrev Pb2 : Ss := (.cons (.app 2 (.e (.var 7))) .nil)
abbrev Pc1 : E := (.and (.var 6) (.cmp .isin (.var 7) (.cst (.tup [.str [97, 108, 108], .str [110, 111, 110, 101], .str [116, 111, 112, 115], .str [98, 121], .str [116, 97, 103], .str [105, 100], .str [117, 110, 100, 101, 114], .str [111, 118, 101, 114], .str [102, 105, 108, 101], .str [116, 101, 120, 116]]))))
abbrev Pb1_0 : S := (.asg (.one 8) (.bin .add (.var 5) (.ite (.cmp .isin (.var 7) (.cst (.tup [.str [97, 108, 108], .str [110, 111, 110, 101], .str [116, 111, 112, 115]]))) (.cst (.int 1)) (.cst (.int 2)))))
abbrev Pb1_1 : S := (.asg (.one 9) (.call 25 (.cons false (.slc (.var 1) (.var 5) (.var 8)) .nil)))
abbrev Pb1_2 : S := (.ifS (.cmp .is (.var 9) (.cst (.non))) (.cons (.rais 1 (.bin .add (.var 5) (.cst (.int 1)))) .nil) .nil)
abbrev Pb1_3 : S := (.app 3 (.e (.var 9)))
abbrev Pb1_4 : S := (.io 26 [2, 3] (.cons false (.cst (.tup [.str [110, 111, 116], .str [110, 101, 101, 100, 115]])) .nil))
abbrev Pb1_5 : S := (.asg (.one 6) (.cst (.bl false)))
abbrev Pb1_6 : S := (.asg (.one 5) (.bin .sub (.var 8) (.cst (.int 1))))
abbrev Pb1 : Ss := .cons Pb1_0 (.cons Pb1_1 (.cons Pb1_2 (.cons Pb1_3 (.cons Pb1_4 (.cons Pb1_5 (.cons Pb1_6 .nil))))))
abbrev Pe3 : Ss := .cons (.ifS Pc4 Pb4 Pe4) .nil
abbrev Pe2 : Ss := .cons (.ifS Pc3 Pb3 Pe3) .nil
abbrev Pe1 : Ss := .cons (.ifS Pc2 Pb2 Pe2) .nil
abbrev Pm : S := (.aug 4 .add (.ite (.cmp .isin (.var 7) (.cst (.str [40, 41]))) (.cst (.int 0)) (.cst (.int 1))))
abbrev Pa : S := (.aug 5 .add (.cst (.int 1)))
abbrev Pw : S := (.asg (.one 7) (.idx (.var 1) (.var 5)))
abbrev Pi : S := .ifS Pc1 Pb1 Pe1
abbrev PB : Ss := .cons Pw (.cons Pi (.cons Pm (.cons Pa .nil)))
/-- the state of parse_ask's loop -/
abbrev PS (T : List Nat) (ws : List W) (H : List W) (A : List D) (m at_ : Int) (wt : Bool) (s7 s8 s9 : Slot) : List Slot := [.val (.str T), .own (.lst (ws.map .str)), .own (lW H), .own (lD A), .val (.int m), .val (.int at_), .val (.bl wt), s7, s8, s9, .none, .none, .none, .none]
inductive PO where
  | err (i : Int)
  | fin (H : List W) (A : List D) (wt : Bool) (m : Nat)
def cnt (w : W) : Nat := if inS w [40, 41] then 0 else 1
def setOf (w : W) : List W := if w = [97, 110, 100] then [[97, 110, 100]] else JO
def parseM : Nat → List W → Nat → List W → List D → Bool → Nat → Option PO
  | 0, _, _, _, _, _, _ => none
  | _ + 1, [], _, H, A, wt, m => some (.fin H A wt m)
  | n + 1, w :: rest, at_, H, A, wt, m =>
    if wt = true ∧ w ∈ LE then
      (if w ∈ BA then (match bindM AH H (.tup [.str w] :: A) with | some (H', A') => parseM n rest (at_ + 1) H' A' false (m + cnt w) | none => none)
      else match rest with
        | [] => some (.err (at_ + 1))
        | v :: rest' => match rl w v with
            | none => some (.err (at_ + 1))
            | some d => (match bindM AH H (d :: A) with | some (H', A') => parseM n rest' (at_ + 2) H' A' false (m + cnt w) | none => none))
    else if wt = true ∧ (w = [40] ∨ w ∈ AH) then parseM n rest (at_ + 1) (w :: H) A true (m + cnt w)
    else if wt = false ∧ w ∈ JO then (match bindM (setOf w) H A with | some (H', A') => parseM n rest (at_ + 1) (w :: H') A' true (m + cnt w) | none => none)
    else if wt = false ∧ w = [41] ∧ [40] ∈ H then (match closeM H A with | some (H', A') => parseM n rest (at_ + 1) H' A' false (m + cnt w) | none => none)
    else some (.err at_)
section
variable {cl : Cl} {T : List Nat} {ws : List W} {H : List W} {A : List D} {m : Int} {i : Nat} {wt : Bool} {s7 s8 s9 : Slot} {w : W}
theorem beq_dec (a b : W) : (a == b) = decide (a = b) := by by_cases h : a = b <;> simp [h]
theorem lst_ix (l : List W) {i : Nat} {w : W} (h : l[i]? = some w) : idxD (.lst (l.map .str)) (.int i) = some (.str w) := by
  have hi : i < l.length := (List.getElem?_eq_some_iff.mp h).1
  have h1 : ixD (l.map D.str).length (i : Int) = some i := by
    unfold ixD
    have a : (0 : Int) ≤ i := by omega
    have b : (i : Int) < (((l.map D.str).length : Nat) : Int) := by simp; omega
    simp only [a, b, if_true]
    simp
  simp only [ix_lst, h1]
  rw [List.getElem?_map, h]
  rfl
theorem pw_st (h : ws[i]? = some w) : evS cl Pw (PS T ws H A m i wt s7 s8 s9) = .nx (PS T ws H A m i wt (.val (.str w)) s8 s9) := by
  have e : evE cl (.idx (.var 1) (.var 5)) (PS T ws H A m i wt s7 s8 s9) = .ok (.v, .str w) := by
    show okV (idxD (.lst (ws.map .str)) (.int i)) = _
    rw [lst_ix ws h]; rfl
  rw [s_asg, e]
  rfl
theorem pm_st {m : Nat} : evS cl Pm (PS T ws H A m i wt (.val (.str w)) s8 s9) = .nx (PS T ws H A ((m + cnt w : Nat) : Int) i wt (.val (.str w)) s8 s9) := by
  unfold cnt
  have e : evE cl (.cmp .isin (.var 7) (.cst (.str [40, 41]))) (PS T ws H A m i wt (.val (.str w)) s8 s9) = .ok (.v, .bl (inS w [40, 41])) := rfl
  rw [s_aug, e_ite, e]
  cases inS w [40, 41] <;> simp [augD]
theorem pa_st : evS cl Pa (PS T ws H A m i wt s7 s8 s9) = .nx (PS T ws H A m ((i + 1 : Nat) : Int) wt s7 s8 s9) := rfl
theorem c1_ev : truthR (evE cl Pc1 (PS T ws H A m i wt (.val (.str w)) s8 s9)) = .ok (wt && decide (w ∈ LE)) := by
  have e : evE cl (.cmp .isin (.var 7) (.cst (.tup (LE.map .str)))) (PS T ws H A m i wt (.val (.str w)) s8 s9) = .ok (.v, .bl (decide (w ∈ LE))) := by
    show (match cmpD .isin (.str w) (.tup (LE.map .str)) with | some r => R.ok (Kd.v, D.bl r) | none => .stuck) = _
    rw [isin_tup]
  have e0 : evE cl (.var 6) (PS T ws H A m i wt (.val (.str w)) s8 s9) = .ok (.v, .bl wt) := rfl
  rw [e_and, e0]
  cases wt with
  | false => rfl
  | true =>
    simp only [b_ok, tr_bl]
    show truthR (evE cl (.cmp .isin (.var 7) (.cst (.tup (LE.map .str)))) (PS T ws H A m i true (.val (.str w)) s8 s9)) = _
    rw [e]
    simp
theorem c2_ev : truthR (evE cl Pc2 (PS T ws H A m i wt (.val (.str w)) s8 s9)) = .ok (wt && (decide (w = [40]) || decide (w ∈ AH))) := by
  have e : evE cl (.cmp .isin (.var 7) (.cst (.tup (AH.map .str)))) (PS T ws H A m i wt (.val (.str w)) s8 s9) = .ok (.v, .bl (decide (w ∈ AH))) := by
    show (match cmpD .isin (.str w) (.tup (AH.map .str)) with | some r => R.ok (Kd.v, D.bl r) | none => .stuck) = _
    rw [isin_tup]
  have e1 : evE cl (.cmp .eq (.var 7) (.cst (.str [40]))) (PS T ws H A m i wt (.val (.str w)) s8 s9) = .ok (.v, .bl (decide (w = [40]))) := by
    show (match cmpD .eq (.str w) (.str [40]) with | some r => R.ok (Kd.v, D.bl r) | none => .stuck) = _
    rw [eq_str, beq_dec]
  have e0 : evE cl (.var 6) (PS T ws H A m i wt (.val (.str w)) s8 s9) = .ok (.v, .bl wt) := rfl
  rw [e_and, e0]
  cases wt with
  | false => rfl
  | true =>
    simp only [b_ok, tr_bl]
    rw [e_or, e1]
    cases decide (w = [40]) with
    | true => rfl
    | false =>
      simp only [b_ok, tr_bl]
      rw [show (E.cmp Cop.isin (E.var 7) (E.cst (D.tup [D.str [110, 111, 116], D.str [110, 101, 101, 100, 115]]))) = .cmp .isin (.var 7) (.cst (.tup (AH.map .str))) from rfl, e]
      simp
end
section
variable {cl : Cl} {T : List Nat} {ws : List W} {H : List W} {A : List D} {m : Int} {i : Nat} {wt : Bool} {s7 s8 s9 : Slot} {w : W}
theorem c3_ev : truthR (evE cl Pc3 (PS T ws H A m i wt (.val (.str w)) s8 s9)) = .ok (!wt && decide (w ∈ JO)) := by
  have e : evE cl (.cmp .isin (.var 7) (.cst (.tup (JO.map .str)))) (PS T ws H A m i wt (.val (.str w)) s8 s9) = .ok (.v, .bl (decide (w ∈ JO))) := by
    show (match cmpD .isin (.str w) (.tup (JO.map .str)) with | some r => R.ok (Kd.v, D.bl r) | none => .stuck) = _
    rw [isin_tup]
  have e0 : evE cl (.not (.var 6)) (PS T ws H A m i wt (.val (.str w)) s8 s9) = .ok (.v, .bl (!wt)) := rfl
  rw [e_and, e0]
  cases wt with
  | true => rfl
  | false =>
    simp only [b_ok, tr_bl, Bool.not_false]
    show truthR (evE cl (.cmp .isin (.var 7) (.cst (.tup (JO.map .str)))) (PS T ws H A m i false (.val (.str w)) s8 s9)) = _
    rw [e]
    simp
theorem c4_ev : truthR (evE cl Pc4 (PS T ws H A m i wt (.val (.str w)) s8 s9)) = .ok (!wt && (decide (w = [41]) && decide ([40] ∈ H))) := by
  have e : evE cl (.cmp .isin (.cst (.str [40])) (.var 2)) (PS T ws H A m i wt (.val (.str w)) s8 s9) = .ok (.v, .bl (decide ([40] ∈ H))) := by
    show (match cmpD .isin (.str [40]) (.lst (H.reverse.map .str)) with | some r => R.ok (Kd.v, D.bl r) | none => .stuck) = _
    rw [isin_lst]
    simp
  have e1 : evE cl (.cmp .eq (.var 7) (.cst (.str [41]))) (PS T ws H A m i wt (.val (.str w)) s8 s9) = .ok (.v, .bl (decide (w = [41]))) := by
    show (match cmpD .eq (.str w) (.str [41]) with | some r => R.ok (Kd.v, D.bl r) | none => .stuck) = _
    rw [eq_str, beq_dec]
  have e0 : evE cl (.not (.var 6)) (PS T ws H A m i wt (.val (.str w)) s8 s9) = .ok (.v, .bl (!wt)) := rfl
  rw [e_and, e0]
  cases wt with
  | true => rfl
  | false =>
    simp only [b_ok, tr_bl, Bool.not_false]
    rw [e_and, e1]
    cases decide (w = [41]) with
    | false => rfl
    | true =>
      simp only [b_ok, tr_bl]
      rw [e]
      simp
/-- a leaf is kept, what stands ahead of it bound -/
theorem leaf_turn {n : Nat} {d : D} {H' : List W} {A' : List D} (hd : isNonD d = false) (hz : A.length < szl) (hc : cl 26 [lW H, lD (d :: A), .tup (AH.map .str)] = .ok (.v, .non, [lW H', lD A'])) :
    evSs cl (.cons Pb1_2 (.cons Pb1_3 (.cons Pb1_4 (.cons Pb1_5 (.cons Pb1_6 .nil))))) (PS T ws H A m i wt (.val (.str w)) (.val (.int ((n + 1 : Nat) : Int))) (.val d)) = .nx (PS T ws H' A' m n false (.val (.str w)) (.val (.int ((n + 1 : Nat) : Int))) (.val d)) := by
  have i1 : truthR (evE cl (.cmp .is (.var 9) (.cst .non)) (PS T ws H A m i wt (.val (.str w)) (.val (.int ((n + 1 : Nat) : Int))) (.val d))) = .ok false := by
    show truthR (match cmpD .is d .non with | some r => R.ok (Kd.v, D.bl r) | none => .stuck) = _
    rw [is_non, hd]
    rfl
  have t3 : evS cl Pb1_3 (PS T ws H A m i wt (.val (.str w)) (.val (.int ((n + 1 : Nat) : Int))) (.val d)) = .nx (PS T ws H (d :: A) m i wt (.val (.str w)) (.val (.int ((n + 1 : Nat) : Int))) (.val d)) := by
    simp [lD, getOwn, getV, hz]
  have t4 : evS cl Pb1_4 (PS T ws H (d :: A) m i wt (.val (.str w)) (.val (.int ((n + 1 : Nat) : Int))) (.val d)) = .nx (PS T ws H' A' m i wt (.val (.str w)) (.val (.int ((n + 1 : Nat) : Int))) (.val d)) := bind_st (cl := cl) (pre := [.val (.str T), .own (.lst (ws.map .str))]) [.val (.int m), .val (.int i), .val (.bl wt), .val (.str w), .val (.int ((n + 1 : Nat) : Int)), .val d, .none, .none, .none, .none] (set := AH) (H := H) (A := d :: A) (e := .cst (.tup [.str [110, 111, 116], .str [110, 101, 101, 100, 115]])) rfl hc
  rw [ss_nx (ρ' := PS T ws H A m i wt (.val (.str w)) (.val (.int ((n + 1 : Nat) : Int))) (.val d)) (by rw [if_f i1]; rfl), ss_nx t3, ss_nx t4, ss_nx (ρ' := PS T ws H' A' m i false (.val (.str w)) (.val (.int ((n + 1 : Nat) : Int))) (.val d)) rfl,
    ss_nx (ρ' := PS T ws H' A' m n false (.val (.str w)) (.val (.int ((n + 1 : Nat) : Int))) (.val d))]
  · rfl
  · rw [s_asg]
    have : evE cl (.bin .sub (.var 8) (.cst (.int 1))) (PS T ws H' A' m i false (.val (.str w)) (.val (.int ((n + 1 : Nat) : Int))) (.val d)) = .ok (.v, .int n) := by
      show okK (binD .sub (.int ((n + 1 : Nat) : Int)) (.int 1)) = _
      simp only [binD, okK]
      congr 3
      omega
    rw [this]
    rfl
end
end K12
end

section
set_option linter.all false
set_option maxRecDepth 100000
set_option maxHeartbeats 400000
/-! K12z: parse_ask's loop. -/
namespace K12
open Ev
theorem cut_n {α : Type} (pre r : List α) (n : Nat) : cutL (pre ++ r) (some (pre.length : Int)) (some ((pre.length + n : Nat) : Int)) = r.take n := by
  unfold cutL sEnd
  have h1 : ¬ ((pre.length : Int) < 0) := by omega
  have h2 : ¬ (((pre.length + n : Nat) : Int) < 0) := by omega
  simp only [h1, h2, if_false, List.length_append]
  have e1 : min (pre.length : Int).toNat (pre.length + r.length) = pre.length := by omega
  have e2 : min ((pre.length + n : Nat) : Int).toNat (pre.length + r.length) = pre.length + min n r.length := by omega
  rw [e1, e2]
  simp only [List.drop_left, Nat.add_sub_cancel_left]
  rw [List.take_eq_take_iff]
  omega
section
variable {T : List Nat} {ws : List W} {H : List W} {A : List D} {m : Nat} {wt : Bool} {s7 s8 s9 : Slot} {w : W}
/-- what a turn comes to behind its branch -/
theorem tail_turn {cl : Cl} {i i' : Nat} {H' : List W} {A' : List D} {wt' : Bool} {s8' s9' : Slot} (hw : ws[i]? = some w) (h : evS cl Pi (PS T ws H A m i wt (.val (.str w)) s8 s9) = .nx (PS T ws H' A' m i' wt' (.val (.str w)) s8' s9')) :
    evSs cl PB (PS T ws H A m i wt s7 s8 s9) = .nx (PS T ws H' A' ((m + cnt w : Nat) : Int) ((i' + 1 : Nat) : Int) wt' (.val (.str w)) s8' s9') := by
  rw [ss_nx (pw_st hw), ss_nx h, ss_nx pm_st, ss_nx pa_st]
  rfl
theorem exn_turn {cl : Cl} {i : Nat} {x : Nat} {d : D} (hw : ws[i]? = some w) (h : evS cl Pi (PS T ws H A m i wt (.val (.str w)) s8 s9) = .exn x d) : evSs cl PB (PS T ws H A m i wt s7 s8 s9) = .exn x d := by
  rw [ss_nx (pw_st hw), ss_ex h]
theorem pi1 {cl : Cl} {i : Nat} (hl : wt = true ∧ w ∈ LE) : evS cl Pi (PS T ws H A m i wt (.val (.str w)) s8 s9) = evSs cl Pb1 (PS T ws H A m i wt (.val (.str w)) s8 s9) := by
  have := c1_ev (cl := cl) (T := T) (ws := ws) (H := H) (A := A) (m := m) (i := i) (wt := wt) (s8 := s8) (s9 := s9) (w := w)
  rw [hl.1, decide_eq_true hl.2] at this
  rw [hl.1]
  exact if_t this
theorem pi_n {cl : Cl} {i : Nat} (hl : ¬ (wt = true ∧ w ∈ LE)) : evS cl Pi (PS T ws H A m i wt (.val (.str w)) s8 s9) = evSs cl Pe1 (PS T ws H A m i wt (.val (.str w)) s8 s9) := by
  have := c1_ev (cl := cl) (T := T) (ws := ws) (H := H) (A := A) (m := m) (i := i) (wt := wt) (s8 := s8) (s9 := s9) (w := w)
  have e : (wt && decide (w ∈ LE)) = false := by
    cases wt
    · rfl
    · simp only [Bool.true_and, decide_eq_false_iff_not]; exact fun z => hl ⟨rfl, z⟩
  rw [e] at this
  exact if_f this
theorem one_st {cl : Cl} {s : S} {ρ : List Slot} : evSs cl (.cons s .nil) ρ = evS cl s ρ := by
  rw [ss_cons]
  cases evS cl s ρ <;> rfl
/-- the leaf's turn: read_leaf is asked -/
theorem leaf_call {cl : Cl} {i j : Nat} {ws' : List W} {d : D} (he : (ws.drop i).take j = ws') (hj : i + j = i + (if w ∈ BA then 1 else 2)) (hi : i ≤ ws.length) (hc : cl 25 [.lst (ws'.map .str)] = .ok (.v, d, [])) (r : Ss) :
    evSs cl (.cons Pb1_0 (.cons Pb1_1 r)) (PS T ws H A m i wt (.val (.str w)) s8 s9) = evSs cl r (PS T ws H A m i wt (.val (.str w)) (.val (.int ((i + j : Nat) : Int))) (.val d)) := by
  have t0 : evS cl Pb1_0 (PS T ws H A m i wt (.val (.str w)) s8 s9) = .nx (PS T ws H A m i wt (.val (.str w)) (.val (.int ((i + j : Nat) : Int))) s9) := by
    have e : evE cl (.cmp .isin (.var 7) (.cst (.tup (BA.map .str)))) (PS T ws H A m i wt (.val (.str w)) s8 s9) = .ok (.v, .bl (decide (w ∈ BA))) := by
      show (match cmpD .isin (.str w) (.tup (BA.map .str)) with | some r => R.ok (Kd.v, D.bl r) | none => .stuck) = _
      rw [isin_tup]
    have e2 : evE cl (.bin .add (.var 5) (.ite (.cmp .isin (.var 7) (.cst (.tup (BA.map .str)))) (.cst (.int 1)) (.cst (.int 2)))) (PS T ws H A m i wt (.val (.str w)) s8 s9) = .ok (.v, .int ((i + j : Nat) : Int)) := by
      rw [e_bin, e_ite, e]
      rw [hj]
      by_cases hb : w ∈ BA
      · rw [if_pos hb, decide_eq_true hb]; rfl
      · rw [if_neg hb, decide_eq_false hb]; rfl
    show evS cl (.asg (.one 8) (.bin .add (.var 5) (.ite (.cmp .isin (.var 7) (.cst (.tup (BA.map .str)))) (.cst (.int 1)) (.cst (.int 2))))) _ = _
    rw [s_asg, e2]
    rfl
  have t1 : evS cl Pb1_1 (PS T ws H A m i wt (.val (.str w)) (.val (.int ((i + j : Nat) : Int))) s9) = .nx (PS T ws H A m i wt (.val (.str w)) (.val (.int ((i + j : Nat) : Int))) (.val d)) := by
    have e : evE cl (.slc (.var 1) (.var 5) (.var 8)) (PS T ws H A m i wt (.val (.str w)) (.val (.int ((i + j : Nat) : Int))) s9) = .ok (.f, .lst (ws'.map .str)) := by
      show okK (slcD (.lst (ws.map .str)) (some (i : Int)) (some ((i + j : Nat) : Int))) = _
      have : cutL (ws.map D.str) (some (i : Int)) (some ((i + j : Nat) : Int)) = ws'.map .str := by
        have hs : ws.map D.str = (ws.take i).map .str ++ (ws.drop i).map .str := by rw [← List.map_append, List.take_append_drop]
        have hl : ((ws.take i).map D.str).length = i := by simp; omega
        rw [hs]
        have := cut_n ((ws.take i).map D.str) ((ws.drop i).map D.str) j
        rw [hl] at this
        rw [this, ← List.map_take, he]
      simp only [slcD, this, okK]
    rw [s_asg, e_call, es_cons, e]
    simp only [b_ok, st_f, es_nil, List.append_nil, List.map_cons, List.map_nil, hb_f, hb_nil]
    rw [hc]
    rfl
  rw [ss_nx t0, ss_nx t1]
end
def EndP (T : List Nat) (ws : List W) : PO → Out → Prop
  | .err i, x => x = .exn 1 (.int i)
  | .fin H A wt m, x => H.length + A.length ≤ ws.length ∧ ∃ s7 s8 s9, x = .nx (PS T ws H A m ws.length wt s7 s8 s9)
/-- behind a turn -/
def aft (cl : Cl) (n : Nat) (o : Out) : Out := match o with
  | .nx ρ' => loopW cl Pc PB n ρ'
  | .ct ρ' => loopW cl Pc PB n ρ'
  | .bk ρ' => .nx ρ'
  | o => o
theorem lw_a {cl : Cl} {n : Nat} {ρ : List Slot} (h : truthR (evE cl Pc ρ) = .ok true) : loopW cl Pc PB (n + 1) ρ = aft cl n (evSs cl PB ρ) := lw_t h
/-- PARSE_ASK's loop -/
theorem parse_loop (k : Nat) {T : List Nat} {ws : List W} (hv : ∀ v ∈ ws, rlB v = true) (hz : ws.length < 1000000) : ∀ (n : Nat) (rest pre : List W) (H : List W) (A : List D) (wt : Bool) (m nn : Nat) (s7 s8 s9 : Slot) (o : PO), ws = pre ++ rest → parseM n rest pre.length H A wt m = some o →
    H.length + A.length ≤ pre.length → rest.length < nn →
    EndP T ws o (loopW (callF pr (k + 31)) Pc PB nn (PS T ws H A m pre.length wt s7 s8 s9)) := by
  intro n
  induction n with
  | zero => intro rest pre H A wt m nn s7 s8 s9 o _ h; cases h
  | succ n ih =>
    intro rest pre H A wt m nn s7 s8 s9 o hws hp hsz hnn
    cases nn with
    | zero => omega
    | succ nn =>
    cases rest with
    | nil =>
      simp only [parseM] at hp
      cases hp
      have e : ws.length = pre.length := by rw [hws]; simp
      have c : truthR (evE (callF pr (k + 31)) Pc (PS T ws H A m pre.length wt s7 s8 s9)) = .ok false := by
        show truthR (match cmpD .lt (.int pre.length) (.int ((ws.map D.str).length : Nat)) with | some r => R.ok (Kd.v, D.bl r) | none => .stuck) = _
        rw [lt_int]
        simp [e]
      rw [lw_f c]
      exact ⟨by omega, s7, s8, s9, by rw [e]⟩
    | cons w rest =>
      have hlen : ws.length = pre.length + (rest.length + 1) := by rw [hws]; simp
      simp only [List.length_cons] at hnn
      have hw : ws[pre.length]? = some w := by rw [hws]; simp
      have hdrop : ws.drop pre.length = w :: rest := by rw [hws]; simp
      have c : truthR (evE (callF pr (k + 31)) Pc (PS T ws H A m pre.length wt s7 s8 s9)) = .ok true := by
        show truthR (match cmpD .lt (.int pre.length) (.int ((ws.map D.str).length : Nat)) with | some r => R.ok (Kd.v, D.bl r) | none => .stuck) = _
        rw [lt_int]
        have : (pre.length : Int) < (((ws.map D.str).length : Nat) : Int) := by simp; omega
        simp only [decide_eq_true this]
        rfl
      rw [lw_a c]
      have zA : A.length < szl := by unfold szl; omega
      have zH : H.length < szl := by unfold szl; omega
      -- on from here with the rest
      have go : ∀ (ws1 rest1 : List W) (H' : List W) (A' : List D) (wt' : Bool) (s8' s9' : Slot), w :: rest = ws1 ++ rest1 → 1 ≤ ws1.length → parseM n rest1 (pre.length + ws1.length) H' A' wt' (m + cnt w) = some o → H'.length + A'.length ≤ pre.length + ws1.length →
          evSs (callF pr (k + 31)) PB (PS T ws H A m pre.length wt s7 s8 s9) = .nx (PS T ws H' A' ((m + cnt w : Nat) : Int) ((pre.length + ws1.length : Nat) : Int) wt' (.val (.str w)) s8' s9') →
          EndP T ws o (aft (callF pr (k + 31)) nn (evSs (callF pr (k + 31)) PB (PS T ws H A m pre.length wt s7 s8 s9))) := by
        intro ws1 rest1 H' A' wt' s8' s9' hr h1 hp' hs ht
        have hr1 : rest1.length + ws1.length = rest.length + 1 := by
          have := congrArg List.length hr
          simp only [List.length_cons, List.length_append] at this
          omega
        have := ih rest1 (pre ++ ws1) H' A' wt' (m + cnt w) nn (.val (.str w)) s8' s9' o (by rw [hws, hr]; simp) (by rw [List.length_append]; exact hp') (by rw [List.length_append]; omega) (by omega)
        rw [ht]
        rw [List.length_append] at this
        exact this
      simp only [parseM] at hp
      by_cases h1 : wt = true ∧ w ∈ LE
      · rw [if_pos h1] at hp
        by_cases hb : w ∈ BA
        · rw [if_pos hb] at hp
          split at hp
          · rename_i H' A' e1
            have lb := bindM_len e1
            simp only [List.length_cons] at lb
            refine go [w] rest H' A' false (.val (.int ((pre.length + 1 : Nat) : Int))) (.val (.tup [.str w])) rfl (Nat.le_refl _) hp (by simp only [List.length_cons, List.length_nil]; omega) (tail_turn hw (i' := pre.length) ?_)
            rw [pi1 h1]
            refine (leaf_call (j := 1) (ws' := [w]) (by rw [hdrop]; rfl) (by rw [if_pos hb]) (by omega) (bare_ok hb (by omega)) _).trans ?_
            exact leaf_turn rfl zA (bind_ir _ e1 zH (by simp only [List.length_cons]; unfold szl; omega))
          · cases hp
        · rw [if_neg hb] at hp
          have hk : w ∈ LK := by
            rcases List.mem_append.mp h1.2 with z | z
            · exact absurd z hb
            · exact z
          cases rest with
          | nil =>
            cases hp
            have : evSs (callF pr (k + 31)) PB (PS T ws H A m pre.length wt s7 s8 s9) = .exn 1 (.int ((pre.length + 1 : Nat) : Int)) := by
              refine exn_turn hw ?_
              rw [pi1 h1]
              refine (leaf_call (j := 2) (ws' := [w]) (by rw [hdrop]; rfl) (by rw [if_neg hb]) (by omega) (kind_ok hk (by omega)) _).trans ?_
              rfl
            rw [this]
            rfl
          | cons v rest' =>
            have hvv := hv v (by rw [hws]; simp)
            obtain ⟨r1, r2⟩ := rl_ok hvv hk (k := k + 31) (by omega)
            dsimp only at hp
            split at hp
            · rename_i e0
              cases hp
              rw [e0] at r1
              have : evSs (callF pr (k + 31)) PB (PS T ws H A m pre.length wt s7 s8 s9) = .exn 1 (.int ((pre.length + 1 : Nat) : Int)) := by
                refine exn_turn hw ?_
                rw [pi1 h1]
                refine (leaf_call (j := 2) (ws' := [w, v]) (by rw [hdrop]; rfl) (by rw [if_neg hb]) (by omega) r1 _).trans ?_
                rfl
              rw [this]
              rfl
            · rename_i d e0
              rw [e0] at r1
              split at hp
              · rename_i H' A' e1
                have lb := bindM_len e1
                simp only [List.length_cons] at lb
                refine go [w, v] rest' H' A' false (.val (.int ((pre.length + 1 + 1 : Nat) : Int))) (.val d) rfl (by simp) hp (by simp only [List.length_cons, List.length_nil]; omega) (tail_turn hw (i' := pre.length + 1) ?_)
                rw [pi1 h1]
                refine (leaf_call (j := 2) (ws' := [w, v]) (by rw [hdrop]; rfl) (by rw [if_neg hb]) (by omega) r1 _).trans ?_
                exact leaf_turn (r2 d e0) zA (bind_ir _ e1 zH (by simp only [List.length_cons]; unfold szl; omega))
              · cases hp
      · rw [if_neg h1] at hp
        have stay : ∀ {H' : List W} {A' : List D} {wt' : Bool}, parseM n rest (pre.length + 1) H' A' wt' (m + cnt w) = some o → H'.length + A'.length ≤ pre.length + 1 → evSs (callF pr (k + 31)) Pe1 (PS T ws H A m pre.length wt (.val (.str w)) s8 s9) = .nx (PS T ws H' A' m pre.length wt' (.val (.str w)) s8 s9) →
            EndP T ws o (aft (callF pr (k + 31)) nn (evSs (callF pr (k + 31)) PB (PS T ws H A m pre.length wt s7 s8 s9))) := fun {H' A' wt'} hp' hs ht => go [w] rest H' A' wt' s8 s9 rfl (Nat.le_refl _) hp' hs (tail_turn hw (i' := pre.length) (by rw [pi_n h1]; exact ht))
        by_cases h2 : wt = true ∧ (w = [40] ∨ w ∈ AH)
        · rw [if_pos h2] at hp
          refine stay hp (by simp only [List.length_cons]; omega) ?_
          have c2 := c2_ev (cl := callF pr (k + 31)) (T := T) (ws := ws) (H := H) (A := A) (m := m) (i := pre.length) (wt := wt) (s8 := s8) (s9 := s9) (w := w)
          have e : (wt && (decide (w = [40]) || decide (w ∈ AH))) = true := by
            rw [h2.1]
            simpa using h2.2
          rw [e] at c2
          rw [one_st, if_t c2, h2.1, one_st]
          simp [lW, getOwn, getV, zH]
        · rw [if_neg h2] at hp
          have c2 := c2_ev (cl := callF pr (k + 31)) (T := T) (ws := ws) (H := H) (A := A) (m := m) (i := pre.length) (wt := wt) (s8 := s8) (s9 := s9) (w := w)
          have e : (wt && (decide (w = [40]) || decide (w ∈ AH))) = false := by
            cases hwt : wt
            · rfl
            · rw [hwt] at h2
              simp only [true_and, not_or] at h2
              simp [h2.1, h2.2]
          rw [e] at c2
          have step2 : evSs (callF pr (k + 31)) Pe1 (PS T ws H A m pre.length wt (.val (.str w)) s8 s9) = evSs (callF pr (k + 31)) Pe2 (PS T ws H A m pre.length wt (.val (.str w)) s8 s9) := by rw [one_st, if_f c2]
          have c3 := c3_ev (cl := callF pr (k + 31)) (T := T) (ws := ws) (H := H) (A := A) (m := m) (i := pre.length) (wt := wt) (s8 := s8) (s9 := s9) (w := w)
          by_cases h3 : wt = false ∧ w ∈ JO
          · rw [if_pos h3] at hp
            split at hp
            · rename_i H' A' e1
              have lb := bindM_len e1
              refine stay hp (by simp only [List.length_cons]; omega) ?_
              rw [step2, one_st]
              have e : (!wt && decide (w ∈ JO)) = true := by rw [h3.1]; simpa using h3.2
              rw [e] at c3
              rw [if_t c3]
              have es : evE (callF pr (k + 31)) (.ite (.cmp .eq (.var 7) (.cst (.str [97, 110, 100]))) (.tup (.cons false (.cst (.str [97, 110, 100])) .nil)) (.cst (.tup [.str [97, 110, 100], .str [111, 114]]))) (PS T ws H A m pre.length wt (.val (.str w)) s8 s9) = .ok (.v, .tup ((setOf w).map .str)) := by
                have e1 : evE (callF pr (k + 31)) (.cmp .eq (.var 7) (.cst (.str [97, 110, 100]))) (PS T ws H A m pre.length wt (.val (.str w)) s8 s9) = .ok (.v, .bl (decide (w = [97, 110, 100]))) := by
                  show (match cmpD .eq (.str w) (.str [97, 110, 100]) with | some r => R.ok (Kd.v, D.bl r) | none => .stuck) = _
                  rw [eq_str, beq_dec]
                rw [e_ite, e1]
                unfold setOf
                by_cases hq : w = [97, 110, 100]
                · rw [if_pos hq, decide_eq_true hq]; rfl
                · rw [if_neg hq, decide_eq_false hq]; rfl
              have t1 : evS (callF pr (k + 31)) (.io 26 [2, 3] (.cons false (.ite (.cmp .eq (.var 7) (.cst (.str [97, 110, 100]))) (.tup (.cons false (.cst (.str [97, 110, 100])) .nil)) (.cst (.tup [.str [97, 110, 100], .str [111, 114]]))) .nil)) (PS T ws H A m pre.length wt (.val (.str w)) s8 s9) = .nx (PS T ws H' A' m pre.length wt (.val (.str w)) s8 s9) :=
                bind_st (cl := callF pr (k + 31)) (pre := [.val (.str T), .own (.lst (ws.map .str))]) [.val (.int m), .val (.int pre.length), .val (.bl wt), .val (.str w), s8, s9, .none, .none, .none, .none] (set := setOf w) (H := H) (A := A) es (bind_ir _ e1 zH zA)
              rw [ss_nx t1, ss_nx (ρ' := PS T ws (w :: H') A' m pre.length wt (.val (.str w)) s8 s9)]
              · rfl
              · have zH' : H'.length < szl := by unfold szl at zH ⊢; omega
                simp [lW, getOwn, getV, zH']
            · cases hp
          · rw [if_neg h3] at hp
            have e : (!wt && decide (w ∈ JO)) = false := by
              cases hwt : wt
              · rw [hwt] at h3
                simp only [true_and] at h3
                simp [h3]
              · rfl
            rw [e] at c3
            have step3 : evSs (callF pr (k + 31)) Pe2 (PS T ws H A m pre.length wt (.val (.str w)) s8 s9) = evSs (callF pr (k + 31)) Pe3 (PS T ws H A m pre.length wt (.val (.str w)) s8 s9) := by rw [one_st, if_f c3]
            have c4 := c4_ev (cl := callF pr (k + 31)) (T := T) (ws := ws) (H := H) (A := A) (m := m) (i := pre.length) (wt := wt) (s8 := s8) (s9 := s9) (w := w)
            by_cases h4 : wt = false ∧ w = [41] ∧ [40] ∈ H
            · rw [if_pos h4] at hp
              split at hp
              · rename_i H' A' e1
                have lb : H'.length ≤ H.length ∧ A'.length ≤ A.length := by
                  have e2 := e1
                  unfold closeM at e2
                  split at e2
                  · rename_i w1 H1 A1 e3
                    have l1 := bindM_len e3
                    have l2 := bindM_len e2
                    simp only [List.length_cons] at l1
                    omega
                  · cases e2
                have hwt := h4.1
                subst hwt
                refine stay hp (by omega) ?_
                rw [step2, step3, one_st]
                have e : (!false && (decide (w = [41]) && decide ([40] ∈ H))) = true := by simp [h4.2.1, h4.2.2]
                rw [e] at c4
                rw [if_t c4, one_st, s_io]
                have cc := close_ir (k + 29) e1 zH zA
                have g1 : getOwns (PS T ws H A m pre.length false (.val (.str w)) s8 s9) [2, 3] = some [lW H, lD A] := rfl
                rw [if_pos (by decide), g1]
                simp only [es_nil, o_ok, so_nil, List.append_nil]
                rw [cc]
                rfl
              · cases hp
            · rw [if_neg h4] at hp
              cases hp
              have e : (!wt && (decide (w = [41]) && decide ([40] ∈ H))) = false := by
                cases hwt : wt
                · rw [hwt] at h4
                  simp only [true_and, not_and] at h4
                  by_cases hq : w = [41]
                  · simp [hq, h4 hq]
                  · simp [hq]
                · rfl
              rw [e] at c4
              have : evSs (callF pr (k + 31)) PB (PS T ws H A m pre.length wt s7 s8 s9) = .exn 1 (.int (pre.length : Int)) := by
                refine exn_turn hw ?_
                rw [pi_n h1, step2, step3, one_st, if_f c4]
                rfl
              rw [this]
              rfl
end K12
end

section
set_option linter.all false
set_option maxRecDepth 100000
set_option maxHeartbeats 400000
/-! K12a: parse_ask, read, what is told. -/
namespace K12
open Ev
inductive PR where
  | bad (i : Int)
  | good (d : D)
def PR.res : PR → R (Kd × D × List D)
  | .bad i => .exn 1 (.int i)
  | .good d => .ok (.v, d, [])
def finR (ws : List W) (H : List W) (A : List D) (wt : Bool) (m : Nat) : Option PR :=
  if wt = true ∨ [40] ∈ H then some (.bad ws.length) else if 60 < m then some (.bad 60) else match bindM JO H A with
    | some (_, A') => (match A'.reverse with | a :: _ => some (.good a) | [] => none)
    | none => none
def parseR (ws : List W) : Option PR := match parseM (ws.length + 1) ws 0 [] [] true 0 with
  | some (.err i) => some (.bad i)
  | some (.fin H A wt m) => finR ws H A wt m
  | none => none
abbrev Q8 : S := (.ifS (.or (.var 6) (.cmp .isin (.cst (.str [40])) (.var 2))) (.cons (.rais 1 (.blt .len (.cons false (.var 1) .nil))) .nil) .nil)
abbrev Q9 : S := (.ifS (.cmp .gt (.var 4) (.cst (.int 60))) (.cons (.rais 1 (.cst (.int 60))) .nil) .nil)
abbrev Q10 : S := (.io 26 [2, 3] (.cons false (.cst (.tup [.str [97, 110, 100], .str [111, 114]])) .nil))
abbrev Q11 : S := (.ret (.idx (.var 3) (.cst (.int 0))))
theorem end_ok (k : Nat) {T : List Nat} {ws H : List W} {A : List D} {wt : Bool} {m : Nat} {s7 s8 s9 : Slot} {r : PR} (hr : finR ws H A wt m = some r) (zH : H.length < szl) (zA : A.length < szl) :
    Ev.finish f28 (evSs (callF pr (k + 31)) (.cons Q8 (.cons Q9 (.cons Q10 (.cons Q11 .nil)))) (PS T ws H A m ws.length wt s7 s8 s9)) = r.res := by
  unfold finR at hr
  have e0 : evE (callF pr (k + 31)) (.var 6) (PS T ws H A m ws.length wt s7 s8 s9) = .ok (.v, .bl wt) := rfl
  have e1 : evE (callF pr (k + 31)) (.cmp .isin (.cst (.str [40])) (.var 2)) (PS T ws H A m ws.length wt s7 s8 s9) = .ok (.v, .bl (decide ([40] ∈ H))) := by
    show (match cmpD .isin (.str [40]) (.lst (H.reverse.map .str)) with | some r => R.ok (Kd.v, D.bl r) | none => .stuck) = _
    rw [isin_lst]
    simp
  have c8 : truthR (evE (callF pr (k + 31)) (.or (.var 6) (.cmp .isin (.cst (.str [40])) (.var 2))) (PS T ws H A m ws.length wt s7 s8 s9)) = .ok (wt || decide ([40] ∈ H)) := by
    rw [e_or, e0]
    cases wt with
    | true => rfl
    | false =>
      simp only [b_ok, tr_bl]
      rw [e1]
      rfl
  by_cases h8 : wt = true ∨ [40] ∈ H
  · rw [if_pos h8] at hr
    cases hr
    have : (wt || decide ([40] ∈ H)) = true := by simpa using h8
    rw [this] at c8
    rw [ss_ex (x := 1) (d := .int ws.length)]
    · rfl
    · rw [if_t c8]
      have : evE (callF pr (k + 31)) (.blt .len (.cons false (.var 1) .nil)) (PS T ws H A m ws.length wt s7 s8 s9) = .ok (.v, .int ws.length) := by
        show okV (some (.int ((ws.map D.str).length : Nat))) = _
        simp
      rw [one_st, s_rais, this]
      rfl
  · rw [if_neg h8] at hr
    have : (wt || decide ([40] ∈ H)) = false := by
      simp only [not_or, Bool.not_eq_true] at h8
      simp [h8.1, h8.2]
    rw [this] at c8
    rw [ss_nx (ρ' := PS T ws H A m ws.length wt s7 s8 s9) (by rw [if_f c8]; rfl)]
    have c9 : truthR (evE (callF pr (k + 31)) (.cmp .gt (.var 4) (.cst (.int 60))) (PS T ws H A m ws.length wt s7 s8 s9)) = .ok (decide (60 < m)) := by
      show truthR (match cmpD .gt (.int m) (.int 60) with | some r => R.ok (Kd.v, D.bl r) | none => .stuck) = _
      rw [gt_int]
      have : decide ((60 : Int) < (m : Int)) = decide (60 < m) := by
        by_cases h : 60 < m
        · have : (60 : Int) < (m : Int) := by omega
          simp [h, this]
        · have : ¬ (60 : Int) < (m : Int) := by omega
          simp [h, this]
      rw [this]
      rfl
    by_cases h9 : 60 < m
    · rw [if_pos h9] at hr
      cases hr
      rw [decide_eq_true h9] at c9
      rw [ss_ex (x := 1) (d := .int 60)]
      · rfl
      · rw [if_t c9]; rfl
    · rw [if_neg h9] at hr
      rw [decide_eq_false h9] at c9
      rw [ss_nx (ρ' := PS T ws H A m ws.length wt s7 s8 s9) (by rw [if_f c9]; rfl)]
      split at hr
      · rename_i H' A' eb
        split at hr
        · rename_i a r ea
          cases hr
          have t10 : evS (callF pr (k + 31)) Q10 (PS T ws H A m ws.length wt s7 s8 s9) = .nx (PS T ws H' A' m ws.length wt s7 s8 s9) :=
            bind_st (cl := callF pr (k + 31)) (pre := [.val (.str T), .own (.lst (ws.map .str))]) [.val (.int m), .val (.int ws.length), .val (.bl wt), s7, s8, s9, .none, .none, .none, .none] (set := JO) (H := H) (A := A) (e := .cst (.tup [.str [97, 110, 100], .str [111, 114]])) rfl (bind_ir _ eb zH zA)
          have e11 : evE (callF pr (k + 31)) (.idx (.var 3) (.cst (.int 0))) (PS T ws H' A' m ws.length wt s7 s8 s9) = .ok (.v, a) := by
            show okV (idxD (.lst A'.reverse) (.int 0)) = _
            rw [ea]
            have : ixD (a :: r).length 0 = some 0 := by
              unfold ixD
              have : (0 : Int) < (((a :: r).length : Nat) : Int) := by simp
              simp
            simp only [ix_lst, this]
            rfl
          rw [ss_nx t10, one_st, s_ret, e11]
          rfl
        · cases hr
      · cases hr
/-- PARSE_ASK -/
theorem parse_ask (k : Nat) {L : Lay} {ws : List W} {r : PR} (hw : L.map (·.2) = ws) (hz : (txt L).length ≤ szl) (hp : printable (txt L) = true) (hg : good none L) (hv : ∀ v ∈ ws, rlB v = true) (hl : ws.length < 1000000) (hr : parseR ws = some r) :
    callF pr (k + 32) 28 [.str (txt L)] = r.res := by
  have hL : L.length = ws.length := by rw [← hw]; simp
  rw [cf (fn := f28) rfl rfl]
  have ha := ask_words (k + 28) hz hp hg (by rw [hL]; unfold szl; omega)
  have ha : callF pr (k + 31) 12 [.str (txt L)] = .ok (.f, .lst (ws.map .str), []) := by
    rw [show k + 31 = k + 28 + 3 from rfl, ha, ← hw]
    simp
  have t0 : evS (callF pr (k + 31)) (.asg (.one 1) (.call 12 (.cons false (.var 0) .nil))) [.val (.str (txt L)), .none, .none, .none, .none, .none, .none, .none, .none, .none, .none, .none, .none, .none] =
      .nx [.val (.str (txt L)), .own (.lst (ws.map .str)), .none, .none, .none, .none, .none, .none, .none, .none, .none, .none, .none, .none] := by
    rw [s_asg, e_call, es_cons]
    simp only [e_var]
    simp [getV, ha]
  show Ev.finish f28 (evSs (callF pr (k + 31)) (.cons (.asg (.one 1) (.call 12 (.cons false (.var 0) .nil))) (.cons (.ifS (.cmp .is (.var 1) (.cst (.non))) (.cons (.rais 1 (.neg (.cst (.int 1)))) .nil) .nil) (.cons (.asg (.one 2) (.lst .nil)) (.cons (.asg (.one 3) (.lst .nil)) (.cons (.asg (.one 4) (.cst (.int 0))) (.cons (.asg (.one 5) (.cst (.int 0))) (.cons (.asg (.one 6) (.cst (.bl true))) (.cons (.whl Pc PB) (.cons Q8 (.cons Q9 (.cons Q10 (.cons Q11 .nil))))))))))))
    [.val (.str (txt L)), .none, .none, .none, .none, .none, .none, .none, .none, .none, .none, .none, .none, .none]) = _
  rw [ss_nx t0, ss_nx (ρ' := [.val (.str (txt L)), .own (.lst (ws.map .str)), .none, .none, .none, .none, .none, .none, .none, .none, .none, .none, .none, .none]) (by rfl),
    ss_nx (ρ' := [.val (.str (txt L)), .own (.lst (ws.map .str)), .own (lW []), .none, .none, .none, .none, .none, .none, .none, .none, .none, .none, .none]) (by rfl),
    ss_nx (ρ' := [.val (.str (txt L)), .own (.lst (ws.map .str)), .own (lW []), .own (lD []), .none, .none, .none, .none, .none, .none, .none, .none, .none, .none]) (by rfl),
    ss_nx (ρ' := [.val (.str (txt L)), .own (.lst (ws.map .str)), .own (lW []), .own (lD []), .val (.int 0), .none, .none, .none, .none, .none, .none, .none, .none, .none]) (by rfl),
    ss_nx (ρ' := [.val (.str (txt L)), .own (.lst (ws.map .str)), .own (lW []), .own (lD []), .val (.int 0), .val (.int 0), .none, .none, .none, .none, .none, .none, .none, .none]) (by rfl),
    ss_nx (ρ' := PS (txt L) ws [] [] 0 0 true .none .none .none) (by rfl)]
  unfold parseR at hr
  have hlt : ws.length < wfuel := by
    have := wf_big
    omega
  split at hr
  · rename_i i e
    cases hr
    have := parse_loop k hv hl (T := txt L) (ws.length + 1) ws [] [] [] true 0 wfuel .none .none .none (.err i) rfl e (Nat.zero_le _) hlt
    have h2 : loopW (callF pr (k + 31)) Pc PB wfuel (PS (txt L) ws [] [] 0 0 true .none .none .none) = .exn 1 (.int i) := this
    rw [ss_ex (by rw [s_whl]; exact h2)]
    rfl
  · rename_i H A wt m e
    have := parse_loop k hv hl (T := txt L) (ws.length + 1) ws [] [] [] true 0 wfuel .none .none .none (.fin H A wt m) rfl e (Nat.zero_le _) hlt
    obtain ⟨h1, s7, s8, s9, h2⟩ := this
    have h2 : loopW (callF pr (k + 31)) Pc PB wfuel (PS (txt L) ws [] [] 0 0 true .none .none .none) = .nx (PS (txt L) ws H A m ws.length wt s7 s8 s9) := h2
    rw [ss_nx (by rw [s_whl]; exact h2)]
    exact end_ok k hr (by unfold szl; omega) (by unfold szl; omega)
  · cases hr
/-- READ -/
theorem read_ir (k : Nat) {L : Lay} {ws : List W} {r : PR} (hw : L.map (·.2) = ws) (hz : (txt L).length ≤ szl) (hp : printable (txt L) = true) (hg : good none L) (hv : ∀ v ∈ ws, rlB v = true) (hl : ws.length < 1000000) (hr : parseR ws = some r) (hd : ∀ d, r = .good d → True) :
    callF pr (k + 33) 30 [.str (txt L)] = r.res := by
  rw [cf (fn := f30) rfl rfl]
  have h := parse_ask k hw hz hp hg hv hl hr
  have h4 : callF pr (k + 32) 4 [.str (txt L)] = .ok (.v, .str (txt L), []) := by
    rw [cf (fn := f4) rfl rfl]
    simp [f4, startF, getV, isScr, isiD]
  have h0 : callF pr (k + 32) 0 [.str (txt L), .int 1] = .ok (.v, .str (txt L), []) := by
    rw [cf (fn := f0) rfl rfl]
    simp [f0, startF, getV, is_non, isNonD]
  have e : evE (callF pr (k + 32)) (.call 28 (.cons false (.call 0 (.cons false (.call 4 (.cons false (.var 0) .nil)) (.cons false (.cst (.int 1)) .nil))) .nil)) [.val (.str (txt L)), .none, .none, .none, .none] = (match r with | .bad i => .exn 1 (.int i) | .good d => .ok (.v, d)) := by
    rw [e_call, es_cons, e_call, es_cons, e_call, es_cons]
    have : evE (callF pr (k + 32)) (.var 0) [.val (.str (txt L)), .none, .none, .none, .none] = .ok (.v, .str (txt L)) := rfl
    rw [this]
    simp [h4, h0, h]
    cases r <;> rfl
  show Ev.finish f30 (evSs (callF pr (k + 32)) (.cons (.ret (.call 28 (.cons false (.call 0 (.cons false (.call 4 (.cons false (.var 0) .nil)) (.cons false (.cst (.int 1)) .nil))) .nil))) .nil) [.val (.str (txt L)), .none, .none, .none, .none]) = _
  rw [one_st, s_ret, e]
  cases r <;> rfl
/-- what is told of a row: the ask, or where it goes wrong -/
def PR.told : PR → D
  | .bad i => .int i
  | .good d => d
theorem told_ir (k : Nat) {L : Lay} {ws : List W} {r : PR} (hw : L.map (·.2) = ws) (hz : (txt L).length ≤ szl) (hp : printable (txt L) = true) (hg : good none L) (hv : ∀ v ∈ ws, rlB v = true) (hl : ws.length < 1000000) (hr : parseR ws = some r) :
    callF pr (k + 34) 41 [.str (txt L)] = .ok (.v, r.told, []) := by
  rw [cf (fn := f41) rfl rfl]
  have h := read_ir k hw hz hp hg hv hl hr fun _ _ => trivial
  have e : evE (callF pr (k + 33)) (.call 30 (.cons false (.var 0) .nil)) [.val (.str (txt L)), .none, .none, .none, .none, .none] = (match r with | .bad i => .exn 1 (.int i) | .good d => .ok (.v, d)) := by
    rw [e_call, es_cons]
    have : evE (callF pr (k + 33)) (.var 0) [.val (.str (txt L)), .none, .none, .none, .none, .none] = .ok (.v, .str (txt L)) := rfl
    rw [this]
    simp [h]
    cases r <;> rfl
  show Ev.finish f41 (evSs (callF pr (k + 33)) (.cons (.tryAt 1 1 (.call 30 (.cons false (.var 0) .nil))) .nil) [.val (.str (txt L)), .none, .none, .none, .none, .none]) = _
  rw [one_st]
  simp only [evS, List.length_cons, List.length_nil]
  rw [if_neg (by omega), e]
  cases r <;> rfl
end K12
end

section
set_option linter.all false
set_option maxRecDepth 100000
set_option maxHeartbeats 400000
/-! K12b: the reading of rows, and where a row goes wrong. -/
namespace K12
open Ev
inductive Ask where
  | one (w : W)
  | two (w v : W)
  | una (w : W) (a : Ask)
  | bin (w : W) (a b : Ask)
def Ask.d : Ask → D
  | .one w => .tup [.str w]
  | .two w v => (rl w v).getD .non
  | .una w a => .tup [.str w, a.d]
  | .bin w a b => .tup [.str w, a.d, b.d]
def Ask.size : Ask → Nat
  | .one _ => 1
  | .two _ _ => 1
  | .una _ a => a.size + 1
  | .bin _ a b => a.size + b.size + 1
/-- made of right words -/
def Ask.wf (ok : W → Prop) : Ask → Prop
  | .one w => w ∈ BA
  | .two w v => w ∈ LK ∧ ok v ∧ (rl w v).isSome = true
  | .una w a => w ∈ AH ∧ a.wf ok
  | .bin w a b => w ∈ JO ∧ a.wf ok ∧ b.wf ok
/-- a pile of asks -/
inductive Pile (ok : W → Prop) : List D → Nat → Prop
  | nil : Pile ok [] 0
  | cons {a : Ask} {A : List D} {n : Nat} : a.wf ok → Pile ok A n → Pile ok (a.d :: A) (a.size + n)
def joins (H : List W) : Nat := (H.filter fun w => decide (w ∈ JO)).length
def ops (H : List W) : Prop := ∀ w ∈ H, w ∈ AH ∨ w ∈ JO ∨ w = [40]
theorem AH_JO {w : W} (h : w ∈ AH) : w ∉ JO := by
  simp only [AH, List.mem_cons, List.not_mem_nil, or_false] at h
  rcases h with rfl | rfl <;> decide
theorem joins_cons (w : W) (H : List W) : joins (w :: H) = joins H + (if w ∈ JO then 1 else 0) := by
  unfold joins
  rw [List.filter_cons]
  by_cases h : w ∈ JO
  · simp [h]
  · simp [h]
/-- binding comes to an end, with one ask more than joins are held -/
theorem bind_ok (ok : W → Prop) (set : List W) (hs : ∀ w ∈ set, w ∈ AH ∨ w ∈ JO) : ∀ (H : List W) (A : List D) (n : Nat), ops H → Pile ok A n → A.length = joins H + 1 →
    ∃ H' A' n', bindM set H A = some (H', A') ∧ Pile ok A' n' ∧ n' + H'.length = n + H.length ∧ A'.length = joins H' + 1 ∧ ops H' ∧ H'.count [40] = H.count [40] ∧ (∀ w r, H' = w :: r → w ∉ set)
  | [], A, n, _, hp, hl => ⟨[], A, n, rfl, hp, rfl, hl, (fun _ h => by cases h), rfl, (fun _ _ e => by cases e)⟩
  | w :: H, A, n, ho, hp, hl => by
    have ho2 : ops H := fun x hx => ho x (List.mem_cons_of_mem _ hx)
    rw [joins_cons] at hl
    by_cases hw : w ∈ set
    · have w40 : w ≠ [40] := by
        rintro rfl
        rcases hs _ hw with z | z <;> revert z <;> decide
      have hc : (w :: H).count [40] = H.count [40] := by rw [List.count_cons]; simp [w40]
      cases hp with
      | nil => simp at hl
      | cons ha hp =>
        rename_i a A0 n0
        by_cases hA : w ∈ AH
        · have hj : w ∉ JO := AH_JO hA
          rw [if_neg hj] at hl
          have hp2 : Pile ok ((Ask.una w a).d :: A0) ((Ask.una w a).size + n0) := .cons ⟨hA, ha⟩ hp
          obtain ⟨H', A', n', e, q1, q2, q3, q4, q5, q6⟩ := bind_ok ok set hs H _ _ ho2 hp2 (by simpa using hl)
          refine ⟨H', A', n', ?_, q1, ?_, q3, q4, by rw [q5, hc], q6⟩
          · simp only [bindM]
            rw [if_pos hw, if_pos hA]
            exact e
          · simp only [Ask.size, List.length_cons] at *; omega
        · have hj : w ∈ JO := by
            rcases hs _ hw with z | z
            · exact absurd z hA
            · exact z
          rw [if_pos hj] at hl
          cases hp with
          | nil => simp at hl
          | cons hb hp =>
            rename_i b A1 n1
            have hp2 : Pile ok ((Ask.bin w b a).d :: A1) ((Ask.bin w b a).size + n1) := .cons ⟨hj, hb, ha⟩ hp
            obtain ⟨H', A', n', e, q1, q2, q3, q4, q5, q6⟩ := bind_ok ok set hs H _ _ ho2 hp2 (by simp at hl ⊢; omega)
            refine ⟨H', A', n', ?_, q1, ?_, q3, q4, by rw [q5, hc], q6⟩
            · simp only [bindM]
              rw [if_pos hw, if_neg hA]
              exact e
            · simp only [Ask.size, List.length_cons] at *; omega
    · refine ⟨w :: H, A, n, ?_, hp, rfl, by rw [joins_cons]; exact hl, ho, rfl, fun x r e => by cases e; exact hw⟩
      simp only [bindM]
      rw [if_neg hw]
theorem close_ok (ok : W → Prop) {H : List W} {A : List D} {n : Nat} (ho : ops H) (hp : Pile ok A n) (hl : A.length = joins H + 1) (hm : [40] ∈ H) :
    ∃ H' A' n', closeM H A = some (H', A') ∧ Pile ok A' n' ∧ n' + H'.length + 1 = n + H.length ∧ A'.length = joins H' + 1 ∧ ops H' ∧ H'.count [40] + 1 = H.count [40] := by
  obtain ⟨H1, A1, n1, e, q1, q2, q3, q4, q5, q6⟩ := bind_ok ok ALL4 (fun w hw => List.mem_append.mp hw) H A n ho hp hl
  have hm1 : 0 < H1.count [40] := by rw [q5]; exact List.count_pos_iff.mpr hm
  cases H1 with
  | nil => simp at hm1
  | cons w H1 =>
    have hw : w = [40] := by
      have := q6 w H1 rfl
      rcases q4 w (List.mem_cons_self ..) with z | z | z
      · exact absurd (List.mem_append_left _ z) this
      · exact absurd (List.mem_append_right _ z) this
      · exact z
    subst hw
    rw [joins_cons, if_neg (by decide)] at q3
    rw [List.count_cons_self] at q5
    obtain ⟨H', A', n', e2, p1, p2, p3, p4, p5, _⟩ := bind_ok ok AH (fun w hw => .inl hw) H1 A1 n1 (fun x hx => q4 x (List.mem_cons_of_mem _ hx)) q1 q3
    refine ⟨H', A', n', by unfold closeM; rw [e]; exact e2, p1, ?_, p3, p4, by omega⟩
    simp only [List.length_cons] at q2
    omega
/-! ### the law's own reading -/
def kA : W := [97, 115, 107]
def kM : W := [109, 111, 114, 101]
def kN : W := [110, 97, 109, 101]
def kP : W := [112, 97, 116, 104]
def kT : W := [116, 101, 120, 116]
def kI : W := [105, 100]
def kindS (w : W) : W := if w = [98, 121] ∨ w = [116, 97, 103] then kN else if w = kT then w else if w = [102, 105, 108, 101] then kP else kI
def fitM (kd v : W) : Bool := match callF pr 30 37 [.str kd, .str v] with | .ok (_, .bl b, _) => b | _ => false
def fitB (v : W) : Bool := [kN, kP, kT, kI].all fun kd => match callF pr 30 37 [.str kd, .str v] with
  | .ok (.v, .bl b, []) => LK.all fun w => !decide (kindS w = kd) || (b == (rl w v).isSome)
  | _ => false
theorem kind_in (w : W) : kindS w ∈ [kN, kP, kT, kI] := by
  unfold kindS
  split
  · decide
  · split
    · rename_i h; subst h; decide
    · split <;> decide
theorem fit_ok {w v : W} (hv : fitB v = true) (hw : w ∈ LK) : (∀ k, 30 ≤ k → callF pr k 37 [.str (kindS w), .str v] = .ok (.v, .bl (rl w v).isSome, [])) ∧ fitM (kindS w) v = (rl w v).isSome := by
  have h := List.all_eq_true.mp hv (kindS w) (kind_in w)
  unfold fitM
  split at h
  · rename_i b e
    have := List.all_eq_true.mp h w hw
    have : b = (rl w v).isSome := by simpa using this
    subst this
    rw [e]
    exact ⟨fun k hk => lift e hk, rfl⟩
  · cases h
theorem fitB_all : VV.all fitB = true := by decide +kernel
def rightM : List W → Nat → W → Nat → Option Nat
  | [], k, wants, op => if wants = kM ∧ op = 0 then none else some k
  | w :: r, k, wants, op =>
    if wants = kA then (if w = [40] then rightM r (k + 1) kA (op + 1) else if w ∈ BA then rightM r (k + 1) kM op else if w ∈ LK then rightM r (k + 1) (kindS w) op else if w ∈ AH then rightM r (k + 1) kA op else some k)
    else if wants = kM then (if w ∈ JO then rightM r (k + 1) kA op else if w = [41] ∧ 0 < op then rightM r (k + 1) kM (op - 1) else some k)
    else (if fitM wants w then rightM r (k + 1) kM op else some k)
theorem kind_ne (w : W) : kindS w ≠ kA ∧ kindS w ≠ kM := by
  unfold kindS
  split
  · exact ⟨by decide, by decide⟩
  · split
    · rename_i h; subst h; exact ⟨by decide, by decide⟩
    · split
      · exact ⟨by decide, by decide⟩
      · exact ⟨by decide, by decide⟩
end K12
end

section
set_option linter.all false
set_option maxRecDepth 100000
set_option maxHeartbeats 400000
/-! K12c: a row is read, or goes wrong, just where the law says. -/
namespace K12
open Ev
theorem LE_cases {w : W} : w ∈ LE ↔ w ∈ BA ∨ w ∈ LK := List.mem_append
theorem not_LE_40 : ([40] : W) ∉ LE := by decide
theorem not_BA_40 : ([40] : W) ∉ BA := by decide
theorem AH_not {w : W} (h : w ∈ AH) : w ∉ BA ∧ w ∉ LK ∧ w ≠ [40] := by
  simp only [AH, List.mem_cons, List.not_mem_nil, or_false] at h
  rcases h with rfl | rfl <;> decide
theorem BA_not {w : W} (h : w ∈ BA) : w ≠ [40] := by
  simp only [BA, List.mem_cons, List.not_mem_nil, or_false] at h
  rcases h with rfl | rfl | rfl <;> decide
theorem LK_not {w : W} (h : w ∈ LK) : w ≠ [40] ∧ w ∉ BA := by
  simp only [LK, List.mem_cons, List.not_mem_nil, or_false] at h
  rcases h with rfl | rfl | rfl | rfl | rfl | rfl | rfl <;> decide
theorem JO_not {w : W} (h : w ∈ JO) : w ≠ [41] ∧ w ≠ [40] ∧ w ∉ AH := by
  simp only [JO, List.mem_cons, List.not_mem_nil, or_false] at h
  rcases h with rfl | rfl <;> decide
theorem cnt_le (w : W) : cnt w ≤ 1 := by unfold cnt; split <;> omega
theorem rl_some {w v : W} {d : D} (h : rl w v = some d) : (rl w v).isSome = true ∧ (Ask.two w v).d = d := by simp [Ask.d, h]
/-- what the reading comes to, seen from the law's -/
def Agree (ok : W → Prop) (len : Nat) : Option Nat → PO → Prop
  | some i, .err j => j = i
  | some i, .fin H _ wt _ => (wt = true ∨ [40] ∈ H) ∧ i = len
  | none, .fin H A wt m => wt = false ∧ [40] ∉ H ∧ m ≤ len ∧ ∃ n, Pile ok A n ∧ n + H.length ≤ len ∧ A.length = joins H + 1 ∧ ops H
  | none, .err _ => False
def wantS (wt : Bool) : W := if wt then kA else kM
theorem setOf_ok (w : W) : ∀ x ∈ setOf w, x ∈ AH ∨ x ∈ JO := by
  intro x hx
  unfold setOf at hx
  split at hx
  · simp only [List.mem_cons, List.not_mem_nil, or_false] at hx
    subst hx
    exact .inr (by decide)
  · exact .inr hx
theorem parse_right (ok : W → Prop) (hf : ∀ v, ok v → fitB v = true) : ∀ (n : Nat) (rest : List W) (at_ : Nat) (H : List W) (A : List D) (wt : Bool) (m sz : Nat), (∀ v ∈ rest, ok v) → rest.length < n → ops H → Pile ok A sz → A.length = joins H + (if wt then 0 else 1) → sz + H.length ≤ at_ → m ≤ at_ →
    ∃ o, parseM n rest at_ H A wt m = some o ∧ Agree ok (at_ + rest.length) (rightM rest at_ (wantS wt) (H.count [40])) o := by
  intro n
  induction n with
  | zero => intro rest at_ H A wt m sz _ h; omega
  | succ n ih =>
    intro rest at_ H A wt m sz hv hn ho hp hl hs hm
    cases rest with
    | nil =>
      refine ⟨.fin H A wt m, rfl, ?_⟩
      simp only [rightM, List.length_nil, Nat.add_zero]
      cases wt with
      | true =>
        rw [if_neg (fun z => absurd z.1 (by decide))]
        exact ⟨.inl rfl, rfl⟩
      | false =>
        by_cases hc : H.count [40] = 0
        · rw [if_pos ⟨rfl, hc⟩]
          refine ⟨rfl, fun hm => ?_, hm, sz, hp, hs, by simpa using hl, ho⟩
          have := List.count_pos_iff.mpr hm
          omega
        · rw [if_neg (fun z => hc z.2)]
          refine ⟨.inr ?_, rfl⟩
          exact List.count_pos_iff.mp (by omega)
    | cons w rest =>
      simp only [List.length_cons] at hn
      have hvr : ∀ v ∈ rest, ok v := fun v h => hv v (List.mem_cons_of_mem _ h)
      have cw := cnt_le w
      have e1 : at_ + (w :: rest).length = at_ + 1 + rest.length := by simp; omega
      rw [e1]
      cases wt with
      | true =>
        rw [if_pos rfl] at hl
        simp only [parseM, rightM]
        have ew : wantS true = kA := rfl
        rw [ew, if_pos rfl]
        by_cases hB : w ∈ BA
        · rw [if_pos ⟨trivial, LE_cases.mpr (.inl hB)⟩, if_pos hB, if_neg (BA_not hB), if_pos hB]
          have hp2 : Pile ok ((Ask.one w).d :: A) (1 + sz) := .cons (a := .one w) hB hp
          obtain ⟨H', A', n', e, q1, q2, q3, q4, q5, _⟩ := bind_ok ok AH (fun w hw => .inl hw) H _ _ ho hp2 (by simp [hl])
          have e' : bindM AH H (.tup [.str w] :: A) = some (H', A') := e
          rw [e']
          dsimp only
          have := ih rest (at_ + 1) H' A' false (m + cnt w) n' hvr (by omega) q4 q1 (by simpa using q3) (by omega) (by omega)
          rw [q5] at this
          exact this
        · by_cases hK : w ∈ LK
          · rw [if_pos ⟨trivial, LE_cases.mpr (.inr hK)⟩, if_neg hB, if_neg (LK_not hK).1, if_neg hB, if_pos hK]
            cases rest with
            | nil =>
              refine ⟨_, rfl, ?_⟩
              simp only [rightM]
              rw [if_neg (fun z => (kind_ne w).2 z.1)]
              show ((at_ + 1 : Nat) : Int) = ((at_ + 1 : Nat) : Int)
              rfl
            | cons v rest' =>
              have hvv : ok v := hv v (by simp)
              have hfit := (fit_ok (hf v hvv) hK).2
              simp only [rightM]
              rw [if_neg (kind_ne w).1, if_neg (kind_ne w).2, hfit]
              cases hr : rl w v with
              | none =>
                refine ⟨_, rfl, ?_⟩
                show ((at_ + 1 : Nat) : Int) = ((at_ + 1 : Nat) : Int)
                rfl
              | some d =>
                dsimp only
                obtain ⟨i1, i2⟩ := rl_some hr
                have hp2 : Pile ok ((Ask.two w v).d :: A) (1 + sz) := .cons (a := .two w v) ⟨hK, hvv, i1⟩ hp
                rw [i2] at hp2
                obtain ⟨H', A', n', e, q1, q2, q3, q4, q5, _⟩ := bind_ok ok AH (fun w hw => .inl hw) H _ _ ho hp2 (by simp [hl])
                rw [e]
                dsimp only
                simp only [List.length_cons] at hn
                have := ih rest' (at_ + 2) H' A' false (m + cnt w) n' (fun v h => hvr v (List.mem_cons_of_mem _ h)) (by omega) q4 q1 (by simpa using q3) (by omega) (by omega)
                rw [q5] at this
                have e2 : at_ + 1 + (v :: rest').length = at_ + 2 + rest'.length := by simp; omega
                rw [e2]
                simp only [Option.isSome_some, if_true]
                exact this
          · have hL : ¬ (True ∧ w ∈ LE) := fun z => (LE_cases.mp z.2).elim hB hK
            rw [if_neg hL]
            by_cases h40 : w = [40]
            · rw [if_pos ⟨trivial, .inl h40⟩, if_pos h40]
              have := ih rest (at_ + 1) (w :: H) A true (m + cnt w) sz hvr (by omega) (fun x hx => (List.mem_cons.mp hx).elim (fun e => .inr (.inr (e ▸ h40))) (ho x)) hp (by rw [joins_cons, if_neg (by rw [h40]; decide)]; simpa using hl) (by simp; omega) (by omega)
              rw [List.count_cons, h40] at this
              simp only [beq_self_eq_true, if_true] at this
              rw [h40]
              exact this
            · rw [if_neg h40, if_neg hB, if_neg hK]
              by_cases hA : w ∈ AH
              · rw [if_pos ⟨trivial, .inr hA⟩, if_pos hA]
                have := ih rest (at_ + 1) (w :: H) A true (m + cnt w) sz hvr (by omega) (fun x hx => (List.mem_cons.mp hx).elim (fun e => .inl (e ▸ hA)) (ho x)) hp (by rw [joins_cons, if_neg (AH_JO hA)]; simpa using hl) (by simp; omega) (by omega)
                rw [List.count_cons] at this
                have e3 : (w == [40]) = false := by simp [h40]
                rw [e3, if_neg Bool.false_ne_true] at this
                exact this
              · rw [if_neg (fun z => z.2.elim h40 hA), if_neg (fun z => nomatch z.1), if_neg (fun z => nomatch z.1), if_neg hA]
                exact ⟨_, rfl, rfl⟩
      | false =>
        rw [if_neg Bool.false_ne_true] at hl
        simp only [parseM, rightM]
        have ew : wantS false = kM := rfl
        rw [ew, if_neg (show ¬ kM = kA by decide), if_pos rfl, if_neg (fun z => nomatch z.1), if_neg (fun z => nomatch z.1)]
        by_cases hJ : w ∈ JO
        · rw [if_pos ⟨trivial, hJ⟩, if_pos hJ]
          obtain ⟨H', A', n', e, q1, q2, q3, q4, q5, _⟩ := bind_ok ok (setOf w) (setOf_ok w) H _ _ ho hp hl
          rw [e]
          dsimp only
          have := ih rest (at_ + 1) (w :: H') A' true (m + cnt w) n' hvr (by omega) (fun x hx => (List.mem_cons.mp hx).elim (fun e => .inr (.inl (e ▸ hJ))) (q4 x)) q1 (by rw [joins_cons, if_pos hJ, q3]; simp) (by simp; omega) (by omega)
          rw [List.count_cons, q5] at this
          have e3 : (w == [40]) = false := by simp [(JO_not hJ).2.1]
          rw [e3, if_neg Bool.false_ne_true] at this
          exact this
        · rw [if_neg (fun z => hJ z.2), if_neg hJ]
          by_cases hC : w = [41] ∧ 0 < H.count [40]
          · have hm40 : [40] ∈ H := List.count_pos_iff.mp hC.2
            rw [if_pos ⟨trivial, hC.1, hm40⟩, if_pos hC]
            obtain ⟨H', A', n', e, q1, q2, q3, q4, q5⟩ := close_ok ok ho hp hl hm40
            rw [e]
            dsimp only
            have := ih rest (at_ + 1) H' A' false (m + cnt w) n' hvr (by omega) q4 q1 (by simpa using q3) (by omega) (by omega)
            have e3 : H.count [40] - 1 = H'.count [40] := by omega
            rw [e3]
            exact this
          · rw [if_neg (fun z => hC ⟨z.2.1, List.count_pos_iff.mpr z.2.2⟩), if_neg hC]
            exact ⟨_, rfl, rfl⟩
end K12
end

section
set_option linter.all false
set_option maxRecDepth 100000
set_option maxHeartbeats 400000
/-! K12d: what is written is read back. -/
namespace K12
open Ev
abbrev wAnd : W := [97, 110, 100]
abbrev wOr : W := [111, 114]
def isJo : Ask → Bool
  | .bin _ _ _ => true
  | _ => false
def isOr : Ask → Bool
  | .bin w _ _ => decide (w = wOr)
  | _ => false
def brk (c : Bool) (l : List W) : List W := if c then [40] :: (l ++ [[41]]) else l
def toks : Ask → List W
  | .one w => [w]
  | .two w v => [w, v]
  | .una w x => w :: brk (isJo x) (toks x)
  | .bin w x y => (if w = wAnd then brk (isOr x) (toks x) else toks x) ++ w :: (if w = wAnd then brk (isJo y) (toks y) else brk (isOr y) (toks y))
/-- so far the reading goes, whatever comes behind -/
def Go (ws : List W) (i : Nat) (H : List W) (A : List D) (wt : Bool) (m : Nat) (ws' : List W) (i' : Nat) (H' : List W) (A' : List D) (wt' : Bool) (m' : Nat) : Prop :=
  ∃ k, k + ws'.length ≤ ws.length ∧ ∀ n, parseM (n + k) ws i H A wt m = parseM n ws' i' H' A' wt' m'
theorem Go.trans {ws ws1 ws2 : List W} {i i1 i2 : Nat} {H H1 H2 : List W} {A A1 A2 : List D} {wt wt1 wt2 : Bool} {m m1 m2 : Nat} (a : Go ws i H A wt m ws1 i1 H1 A1 wt1 m1) (b : Go ws1 i1 H1 A1 wt1 m1 ws2 i2 H2 A2 wt2 m2) : Go ws i H A wt m ws2 i2 H2 A2 wt2 m2 := by
  obtain ⟨k1, l1, h1⟩ := a
  obtain ⟨k2, l2, h2⟩ := b
  refine ⟨k2 + k1, by omega, fun n => ?_⟩
  rw [← Nat.add_assoc, h1, h2]
theorem cnt_one {w : W} (h : w ∈ AH ∨ w ∈ JO ∨ w ∈ BA ∨ w ∈ LK) : cnt w = 1 := by
  have : ∀ w ∈ AH ++ JO ++ BA ++ LK, cnt w = 1 := by decide +kernel
  refine this w ?_
  rcases h with h | h | h | h <;> simp [h]
theorem cnt_40 : cnt [40] = 0 := by decide +kernel
theorem cnt_41 : cnt [41] = 0 := by decide +kernel
theorem bindAH : ∀ (H : List W) (a : D) (A : List D), ∃ H' A', bindM AH H (a :: A) = some (H', A')
  | [], a, A => ⟨[], a :: A, rfl⟩
  | w :: H, a, A => by
    by_cases h : w ∈ AH
    · obtain ⟨H', A', e⟩ := bindAH H (.tup [.str w, a]) A
      exact ⟨H', A', by simp only [bindM]; rw [if_pos h, if_pos h]; exact e⟩
    · exact ⟨w :: H, a :: A, by simp only [bindM]; rw [if_neg h]⟩
/-- the top of what is held -/
def topNot (s : List W) : List W → Prop
  | [] => True
  | w :: _ => w ∉ s
theorem bind_top {s : List W} {H : List W} (h : topNot s H) (A : List D) : bindM s H A = some (H, A) := by
  cases H with
  | nil => rfl
  | cons w H => simp only [bindM]; rw [if_neg h]
inductive Pend : Ask → List W → List D → Prop
  | atom (a : Ask) : Pend a [] [a.d]
  | and (x y : Ask) : Pend (.bin wAnd x y) [wAnd] [y.d, x.d]
  | or {y : Ask} {hs : List W} {as : List D} (x : Ask) : Pend y hs as → (hs = [] ∨ hs = [wAnd]) → Pend (.bin wOr x y) (hs ++ [wOr]) (as ++ [x.d])
theorem Pend.all {s : List W} (hs : wAnd ∈ s ∧ wOr ∈ s) {a : Ask} {h : List W} {as : List D} (p : Pend a h as) : ∀ (H : List W) (A : List D), bindM s (h ++ H) (as ++ A) = bindM s H (a.d :: A) := by
  induction p with
  | atom a => intro H A; rfl
  | and x y =>
    intro H A
    show bindM s (wAnd :: H) (y.d :: x.d :: A) = _
    simp only [bindM]
    rw [if_pos hs.1, if_neg (by decide)]
    rfl
  | or x p _ ih =>
    intro H A
    rw [List.append_assoc, List.append_assoc, ih]
    show bindM s (wOr :: H) (_ :: x.d :: A) = _
    simp only [bindM]
    rw [if_pos hs.2, if_neg (by decide)]
    rfl
/-- where and alone is bound -/
theorem Pend.and1 {a : Ask} {h : List W} {as : List D} (p : Pend a h as) (hh : h = [] ∨ h = [wAnd]) (H : List W) (A : List D) : bindM [wAnd] (h ++ H) (as ++ A) = bindM [wAnd] H (a.d :: A) := by
  cases p with
  | atom a => rfl
  | and x y =>
    show bindM [wAnd] (wAnd :: H) (y.d :: x.d :: A) = _
    simp only [bindM]
    rw [if_pos (by decide), if_neg (by decide)]
    rfl
  | or x p q =>
    rcases hh with e | e
    · simp at e
    · rcases q with rfl | rfl
      · simp at e
      · simp at e
/-! ### single turns -/
section
variable {R : List W} {i m : Nat} {H H' : List W} {A A' : List D} {w v : W}
theorem go_open : Go ([40] :: R) i H A true m R (i + 1) ([40] :: H) A true m := by
  refine ⟨1, by simp; omega, fun n => ?_⟩
  simp only [parseM]
  rw [if_neg (fun z => not_LE_40 z.2), if_pos ⟨trivial, .inl trivial⟩, cnt_40]
  try rfl
theorem go_ah (hw : w ∈ AH) : Go (w :: R) i H A true m R (i + 1) (w :: H) A true (m + 1) := by
  refine ⟨1, by simp; omega, fun n => ?_⟩
  simp only [parseM]
  have := AH_not hw
  rw [if_neg (fun z => (LE_cases.mp z.2).elim this.1 this.2.1), if_pos ⟨trivial, .inr hw⟩, cnt_one (.inl hw)]
theorem go_jo (hw : w ∈ JO) (hb : bindM (setOf w) H A = some (H', A')) : Go (w :: R) i H A false m R (i + 1) (w :: H') A' true (m + 1) := by
  refine ⟨1, by simp; omega, fun n => ?_⟩
  simp only [parseM]
  rw [if_neg (fun z => nomatch z.1), if_neg (fun z => nomatch z.1), if_pos ⟨trivial, hw⟩, hb, cnt_one (.inr (.inl hw))]
theorem go_close (h40 : [40] ∈ H) (hb : closeM H A = some (H', A')) : Go ([41] :: R) i H A false m R (i + 1) H' A' false m := by
  refine ⟨1, by simp; omega, fun n => ?_⟩
  simp only [parseM]
  rw [if_neg (fun z => nomatch z.1), if_neg (fun z => nomatch z.1), if_neg (fun z => absurd z.2 (by decide)), if_pos ⟨trivial, trivial, h40⟩, hb, cnt_41]
  try rfl
theorem go_one (hw : w ∈ BA) (hb : bindM AH H (.tup [.str w] :: A) = some (H', A')) : Go (w :: R) i H A true m R (i + 1) H' A' false (m + 1) := by
  refine ⟨1, by simp; omega, fun n => ?_⟩
  simp only [parseM]
  rw [if_pos ⟨trivial, LE_cases.mpr (.inl hw)⟩, if_pos hw, hb, cnt_one (.inr (.inr (.inl hw)))]
theorem go_two {d : D} (hw : w ∈ LK) (hr : rl w v = some d) (hb : bindM AH H (d :: A) = some (H', A')) : Go (w :: v :: R) i H A true m R (i + 2) H' A' false (m + 1) := by
  refine ⟨1, by simp; omega, fun n => ?_⟩
  simp only [parseM]
  rw [if_pos ⟨trivial, LE_cases.mpr (.inr hw)⟩, if_neg (LK_not hw).2, hr]
  dsimp only
  rw [hb, cnt_one (.inr (.inr (.inr hw)))]
end
/-- how an ask may stand behind what is held -/
def fitsH (a : Ask) (H : List W) : Prop := if isOr a then topNot (AH ++ JO) H else if isJo a then topNot (wAnd :: AH) H else True
/-- what it comes to -/
def Comes (a : Ask) (H : List W) (A : List D) (H' : List W) (A' : List D) : Prop := if isJo a then ∃ hs as, Pend a hs as ∧ H' = hs ++ H ∧ A' = as ++ A ∧ (isOr a = false → hs = [wAnd]) else bindM AH H (a.d :: A) = some (H', A')
def Reads (a : Ask) : Prop := ∀ (R : List W) (i m : Nat) (H : List W) (A : List D), fitsH a H → ∃ H' A', Comes a H A H' A' ∧ Go (toks a ++ R) i H A true m R (i + (toks a).length) H' A' false (m + a.size)
/-- in brackets: like a single thing -/
theorem reads_brk {a : Ask} (h : Reads a) (R : List W) (i m : Nat) (H : List W) (A : List D) : ∃ H' A', bindM AH H (a.d :: A) = some (H', A') ∧ Go (brk true (toks a) ++ R) i H A true m R (i + (brk true (toks a)).length) H' A' false (m + a.size) := by
  obtain ⟨H', A', hb⟩ := bindAH H a.d A
  refine ⟨H', A', hb, ?_⟩
  have hf : fitsH a ([40] :: H) := by
    unfold fitsH
    split
    · exact (by decide : ([40] : W) ∉ AH ++ JO)
    · split
      · exact (by decide : ([40] : W) ∉ wAnd :: AH)
      · trivial
  obtain ⟨H1, A1, hc, g⟩ := h ([41] :: R) (i + 1) m ([40] :: H) A hf
  have e1 : brk true (toks a) ++ R = [40] :: (toks a ++ [41] :: R) := by simp [brk]
  have e2 : (brk true (toks a)).length = 1 + (toks a).length + 1 := by simp [brk]; omega
  rw [e1, e2]
  have hcl : closeM H1 A1 = some (H', A') ∧ [40] ∈ H1 := by
    unfold Comes at hc
    split at hc
    · obtain ⟨hs, as, p, rfl, rfl, _⟩ := hc
      refine ⟨?_, by simp⟩
      unfold closeM
      rw [p.all ⟨by decide, by decide⟩, bind_top (show topNot ALL4 ([40] :: H) from by show ([40] : W) ∉ ALL4; decide)]
      exact hb
    · rw [bind_top (show topNot AH ([40] :: H) from by show ([40] : W) ∉ AH; decide)] at hc
      cases hc
      refine ⟨?_, by simp⟩
      unfold closeM
      rw [bind_top (show topNot ALL4 ([40] :: H) from by show ([40] : W) ∉ ALL4; decide)]
      exact hb
  have g2 := (go_open (R := toks a ++ [41] :: R) (i := i) (m := m) (H := H) (A := A)).trans (g.trans (go_close (R := R) (i := i + 1 + (toks a).length) (m := m + a.size) hcl.2 hcl.1))
  have e3 : i + (1 + (toks a).length + 1) = i + 1 + (toks a).length + 1 := by omega
  rw [e3]
  exact g2
/-- an operand: in brackets, or no join -/
theorem reads_op {a : Ask} (h : Reads a) {c : Bool} (hc : c = true ∨ isJo a = false) (R : List W) (i m : Nat) (H : List W) (A : List D) : ∃ H' A', bindM AH H (a.d :: A) = some (H', A') ∧ Go (brk c (toks a) ++ R) i H A true m R (i + (brk c (toks a)).length) H' A' false (m + a.size) := by
  cases c with
  | true => exact reads_brk h R i m H A
  | false =>
    have hj : isJo a = false := by
      rcases hc with z | z
      · cases z
      · exact z
    have ho : isOr a = false := by cases a <;> first | rfl | cases hj
    obtain ⟨H', A', hc, g⟩ := h R i m H A (by unfold fitsH; rw [ho, hj]; trivial)
    unfold Comes at hc
    rw [hj] at hc
    exact ⟨H', A', hc, g⟩
theorem reads (ok : W → Prop) : ∀ a : Ask, a.wf ok → Reads a
  | .one w, hw => by
    intro R i m H A _
    obtain ⟨H', A', hb⟩ := bindAH H (.tup [.str w]) A
    exact ⟨H', A', hb, go_one hw hb⟩
  | .two w v, hw => by
    intro R i m H A _
    obtain ⟨h1, _, h3⟩ := hw
    obtain ⟨d, hr⟩ := Option.isSome_iff_exists.mp h3
    obtain ⟨H', A', hb⟩ := bindAH H d A
    have e : (Ask.two w v).d = d := by simp [Ask.d, hr]
    refine ⟨H', A', ?_, go_two h1 hr hb⟩
    unfold Comes
    rw [e]
    exact hb
  | .una w x, hw => by
    intro R i m H A _
    have ih := reads ok x hw.2
    obtain ⟨H', A', hb, g⟩ := reads_op ih (c := isJo x) (by cases isJo x <;> simp) R (i + 1) (m + 1) (w :: H) A
    have hb2 : bindM AH H ((Ask.una w x).d :: A) = some (H', A') := by
      simp only [bindM] at hb
      rw [if_pos hw.1, if_pos hw.1] at hb
      exact hb
    refine ⟨H', A', hb2, ?_⟩
    have g2 := (go_ah (R := brk (isJo x) (toks x) ++ R) (i := i) (m := m) (H := H) (A := A) hw.1).trans g
    have e1 : toks (.una w x) ++ R = w :: (brk (isJo x) (toks x) ++ R) := rfl
    have e2 : i + (toks (.una w x)).length = i + 1 + (brk (isJo x) (toks x)).length := by simp [toks]; omega
    have e3 : m + (Ask.una w x).size = m + 1 + x.size := by simp [Ask.size]; omega
    rw [e1, e2, e3]
    exact g2
  | .bin w x y, hw => by
    intro R i m H A hf
    obtain ⟨hj, hx, hy⟩ := hw
    have ihx := reads ok x hx
    have ihy := reads ok y hy
    by_cases ha : w = wAnd
    · subst ha
      unfold fitsH at hf
      rw [show isOr (.bin wAnd x y) = false from by simp [isOr], show isJo (.bin wAnd x y) = true from rfl] at hf
      simp only [Bool.false_eq_true, if_false, if_true] at hf
      have hfA : topNot AH H := by
        cases H with
        | nil => trivial
        | cons u H => exact fun z => hf (List.mem_cons_of_mem _ z)
      have hf1 : topNot [wAnd] H := by
        cases H with
        | nil => trivial
        | cons u H => exact fun z => hf (List.mem_cons.mpr (.inl (List.mem_singleton.mp z)))
      -- x
      have hX : ∀ R', ∃ H1 A1, bindM [wAnd] H1 A1 = some (H, x.d :: A) ∧ Go (brk (isOr x) (toks x) ++ R') i H A true m R' (i + (brk (isOr x) (toks x)).length) H1 A1 false (m + x.size) := by
        intro R'
        by_cases hxo : isOr x = true
        · obtain ⟨H1, A1, hb, g⟩ := reads_op ihx (c := isOr x) (.inl hxo) R' i m H A
          rw [bind_top hfA] at hb
          cases hb
          exact ⟨H, x.d :: A, bind_top hf1 _, g⟩
        · have hxo : isOr x = false := by simpa using hxo
          by_cases hxj : isJo x = true
          · obtain ⟨H1, A1, hc, g⟩ := ihx R' i m H A (by unfold fitsH; rw [hxo, hxj]; exact hf)
            unfold Comes at hc
            rw [hxj] at hc
            simp only [if_true] at hc
            obtain ⟨hs, as, p, rfl, rfl, q⟩ := hc
            rw [hxo]
            exact ⟨hs ++ H, as ++ A, by rw [p.and1 (.inr (q hxo))]; exact bind_top hf1 _, g⟩
          · obtain ⟨H1, A1, hb, g⟩ := reads_op ihx (c := isOr x) (.inr (by simpa using hxj)) R' i m H A
            rw [bind_top hfA] at hb
            cases hb
            exact ⟨H, x.d :: A, bind_top hf1 _, g⟩
      obtain ⟨H1, A1, hb1, g1⟩ := hX (wAnd :: (brk (isJo y) (toks y) ++ R))
      have g2 := go_jo (R := brk (isJo y) (toks y) ++ R) (i := i + (brk (isOr x) (toks x)).length) (m := m + x.size) hj (H := H1) (A := A1) (by show bindM (setOf wAnd) H1 A1 = _; exact hb1)
      obtain ⟨H2, A2, hb2, g3⟩ := reads_op ihy (c := isJo y) (by cases isJo y <;> simp) R (i + (brk (isOr x) (toks x)).length + 1) (m + x.size + 1) (wAnd :: H) (x.d :: A)
      rw [bind_top (show topNot AH (wAnd :: H) from by show wAnd ∉ AH; decide)] at hb2
      cases hb2
      refine ⟨wAnd :: H, y.d :: x.d :: A, ?_, ?_⟩
      · show ∃ hs as, _
        exact ⟨[wAnd], [y.d, x.d], .and x y, rfl, rfl, fun _ => rfl⟩
      · have e1 : toks (.bin wAnd x y) ++ R = brk (isOr x) (toks x) ++ wAnd :: (brk (isJo y) (toks y) ++ R) := by simp [toks]
        have e2 : i + (toks (.bin wAnd x y)).length = i + (brk (isOr x) (toks x)).length + 1 + (brk (isJo y) (toks y)).length := by simp [toks]; omega
        have e3 : m + (Ask.bin wAnd x y).size = m + x.size + 1 + y.size := by simp [Ask.size]; omega
        rw [e1, e2, e3]
        exact (g1.trans g2).trans g3
    · have hw : w = wOr := by
        simp only [JO, List.mem_cons, List.not_mem_nil, or_false] at hj
        rcases hj with rfl | rfl
        · exact absurd rfl ha
        · rfl
      subst hw
      unfold fitsH at hf
      rw [show isOr (.bin wOr x y) = true from by simp [isOr]] at hf
      simp only [if_true] at hf
      have hfA : topNot AH H := by
        cases H with
        | nil => trivial
        | cons u H => exact fun z => hf (List.mem_append_left _ z)
      have hfJ : topNot JO H := by
        cases H with
        | nil => trivial
        | cons u H => exact fun z => hf (List.mem_append_right _ z)
      have hfx : fitsH x H := by
        unfold fitsH
        split
        · exact hf
        · split
          · cases H with
            | nil => trivial
            | cons u H =>
              intro z
              rcases List.mem_cons.mp z with rfl | z
              · exact hfJ (by decide)
              · exact hfA z
          · trivial
      obtain ⟨H1, A1, hc1, g1⟩ := ihx (wOr :: (brk (isOr y) (toks y) ++ R)) i m H A hfx
      have hb1 : bindM JO H1 A1 = some (H, x.d :: A) := by
        unfold Comes at hc1
        split at hc1
        · obtain ⟨hs, as, p, rfl, rfl, _⟩ := hc1
          rw [p.all ⟨by decide, by decide⟩]
          exact bind_top hfJ _
        · rw [bind_top hfA] at hc1
          cases hc1
          exact bind_top hfJ _
      have g2 := go_jo (R := brk (isOr y) (toks y) ++ R) (i := i + (toks x).length) (m := m + x.size) hj (H := H1) (A := A1) (by show bindM (setOf wOr) H1 A1 = _; exact hb1)
      have e1 : toks (.bin wOr x y) ++ R = toks x ++ wOr :: (brk (isOr y) (toks y) ++ R) := by
        have : ¬ (wOr = wAnd) := by decide
        simp [toks, this]
      have e2 : i + (toks (.bin wOr x y)).length = i + (toks x).length + 1 + (brk (isOr y) (toks y)).length := by
        have : ¬ (wOr = wAnd) := by decide
        simp [toks, this]; omega
      have e3 : m + (Ask.bin wOr x y).size = m + x.size + 1 + y.size := by simp [Ask.size]; omega
      rw [e1, e2, e3]
      by_cases hyj : isJo y = true ∧ isOr y = false
      · obtain ⟨H2, A2, hc2, g3⟩ := ihy R (i + (toks x).length + 1) (m + x.size + 1) (wOr :: H) (x.d :: A) (by
          unfold fitsH
          rw [hyj.1, hyj.2]
          simp only [Bool.false_eq_true, if_false, if_true]
          show wOr ∉ wAnd :: AH
          decide)
        unfold Comes at hc2
        rw [if_pos hyj.1] at hc2
        obtain ⟨hs, as, p, rfl, rfl, q⟩ := hc2
        refine ⟨hs ++ wOr :: H, as ++ x.d :: A, ?_, ?_⟩
        · show ∃ hs as, _
          exact ⟨hs ++ [wOr], as ++ [x.d], .or x p (.inr (q hyj.2)), by simp, by simp, fun z => by simp [isOr] at z⟩
        · rw [hyj.2]
          rw [hyj.2] at g1 g2
          exact (g1.trans g2).trans g3
      · have hop : isOr y = true ∨ isJo y = false := by
          cases h1 : isJo y
          · exact .inr rfl
          · left
            cases h2 : isOr y
            · exact absurd ⟨h1, h2⟩ hyj
            · rfl
        obtain ⟨H2, A2, hb2, g3⟩ := reads_op ihy (c := isOr y) hop R (i + (toks x).length + 1) (m + x.size + 1) (wOr :: H) (x.d :: A)
        rw [bind_top (show topNot AH (wOr :: H) from by show wOr ∉ AH; decide)] at hb2
        cases hb2
        refine ⟨wOr :: H, y.d :: x.d :: A, ?_, (g1.trans g2).trans g3⟩
        show ∃ hs as, _
        exact ⟨[] ++ [wOr], [y.d] ++ [x.d], .or x (.atom y) (.inl rfl), rfl, rfl, fun z => by simp [isOr] at z⟩
/-- WHAT IS WRITTEN IS READ BACK -/
theorem round (ok : W → Prop) {a : Ask} (hw : a.wf ok) (hs : a.size ≤ 60) : parseR (toks a) = some (.good a.d) := by
  obtain ⟨H, A, hc, k, hk, g⟩ := reads ok a hw [] 0 0 [] [] (by unfold fitsH; split <;> (try split) <;> trivial)
  rw [List.append_nil] at hk g
  simp only [List.length_nil, Nat.add_zero] at hk
  have e : parseM ((toks a).length + 1) (toks a) 0 [] [] true 0 = some (.fin H A false (0 + a.size)) := by
    have := g ((toks a).length + 1 - k)
    rw [show (toks a).length + 1 - k + k = (toks a).length + 1 by omega] at this
    rw [this, show (toks a).length + 1 - k = ((toks a).length - k) + 1 by omega]
    rfl
  unfold parseR
  rw [e]
  have fin : bindM JO H A = some ([], [a.d]) ∧ [40] ∉ H := by
    unfold Comes at hc
    split at hc
    · obtain ⟨hs, as, p, rfl, rfl, _⟩ := hc
      refine ⟨by rw [p.all ⟨by decide, by decide⟩]; rfl, ?_⟩
      rw [List.append_nil]
      cases p with
      | atom a => exact fun z => by cases z
      | and x y => decide
      | or x p q => rcases q with rfl | rfl <;> decide
    · cases hc
      exact ⟨rfl, fun z => by cases z⟩
  show finR (toks a) H A false (0 + a.size) = _
  unfold finR
  rw [if_neg (by rintro (z | z); cases z; exact fin.2 z), if_neg (by omega), fin.1]
  rfl
end K12
end

section
set_option linter.all false
set_option maxRecDepth 100000
set_option maxHeartbeats 400000
/-! K12e: what is told of a row. -/
namespace K12
open Ev
theorem row_told (ok : W → Prop) (hf : ∀ v, ok v → fitB v = true) {ws : List W} (hv : ∀ v ∈ ws, ok v) (hl : ws.length ≤ 60) :
    ∃ r, parseR ws = some r ∧ (∀ i : Nat, rightM ws 0 kA 0 = some i → r = .bad i) ∧ (rightM ws 0 kA 0 = none → ∃ a : Ask, r = .good a.d ∧ a.wf ok ∧ a.size ≤ ws.length) := by
  obtain ⟨o, e, ag⟩ := parse_right ok hf (ws.length + 1) ws 0 [] [] true 0 0 hv (by omega) (fun _ h => by cases h) .nil rfl (by simp) (by omega)
  have ec : ([] : List W).count [40] = 0 := rfl
  rw [ec, show wantS true = kA from rfl, Nat.zero_add] at ag
  unfold parseR
  rw [e]
  cases hR : rightM ws 0 kA 0 with
  | some i =>
    rw [hR] at ag
    cases o with
    | err j =>
      have : j = i := ag
      subst this
      exact ⟨_, rfl, fun _ h => by cases h; rfl, nofun⟩
    | fin H A wt m =>
      obtain ⟨h1, h2⟩ := (show (wt = true ∨ [40] ∈ H) ∧ i = ws.length from ag)
      refine ⟨.bad i, ?_, fun _ h => by cases h; rfl, nofun⟩
      show finR ws H A wt m = _
      unfold finR
      rw [if_pos h1, h2]
  | none =>
    rw [hR] at ag
    cases o with
    | err j => exact ag.elim
    | fin H A wt m =>
      obtain ⟨h1, h2, h3, n, hp, h5, h6, h7⟩ := (show wt = false ∧ [40] ∉ H ∧ m ≤ ws.length ∧ ∃ n, Pile ok A n ∧ n + H.length ≤ ws.length ∧ A.length = joins H + 1 ∧ ops H from ag)
      obtain ⟨H', A', n', eb, q1, q2, q3, q4, q5, q6⟩ := bind_ok ok JO (fun w hw => .inr hw) H A n h7 hp h6
      cases A' with
      | nil => simp at q3
      | cons d0 A0 =>
        have q1' := q1
        -- the first one asked stands last
        have last : ∀ {A : List D} {n : Nat}, Pile ok A n → A ≠ [] → ∃ a : Ask, ∃ r, A.reverse = a.d :: r ∧ a.wf ok ∧ a.size ≤ n := by
          intro A n hp
          induction hp with
          | nil => intro h; exact absurd rfl h
          | cons ha hp ih =>
            rename_i a A n
            intro _
            cases A with
            | nil =>
              exact ⟨a, [], rfl, ha, by omega⟩
            | cons d A =>
              obtain ⟨b, r, e1, e2, e3⟩ := ih (by simp)
              refine ⟨b, r ++ [a.d], ?_, e2, by omega⟩
              rw [List.reverse_cons, e1]
              rfl
        obtain ⟨a, r, e1, e2, e3⟩ := last q1 (by simp)
        refine ⟨.good a.d, ?_, nofun, fun _ => ⟨a, rfl, e2, by omega⟩⟩
        show finR ws H A wt m = _
        unfold finR
        rw [if_neg (by rintro (z | z); · rw [h1] at z; cases z
                       · exact h2 z), if_neg (by omega), eb]
        dsimp only
        rw [e1]
end K12
end

section
set_option linter.all false
set_option maxRecDepth 100000
set_option maxHeartbeats 1000000
/-! K12f: the law's own reading of a row. -/
namespace K12
open Ev
abbrev RB : Ss := (.cons (.asg (.one 4) (.idx (.var 0) (.var 3))) (.cons (.ifS (.cmp .eq (.var 1) (.cst (.str [97, 115, 107]))) (.cons (.ifS (.cmp .eq (.var 4) (.cst (.str [40]))) (.cons (.asg (.one 2) (.bin .add (.var 2) (.cst (.int 1)))) .nil) (.cons (.ifS (.cmp .isin (.var 4) (.tup (.cons false (.cst (.str [97, 108, 108])) (.cons false (.cst (.str [110, 111, 110, 101])) (.cons false (.cst (.str [116, 111, 112, 115])) .nil))))) (.cons (.asg (.one 1) (.cst (.str [109, 111, 114, 101]))) .nil) (.cons (.ifS (.cmp .isin (.var 4) (.tup (.cons false (.cst (.str [98, 121])) (.cons false (.cst (.str [116, 97, 103])) (.cons false (.cst (.str [105, 100])) (.cons false (.cst (.str [117, 110, 100, 101, 114])) (.cons false (.cst (.str [111, 118, 101, 114])) (.cons false (.cst (.str [102, 105, 108, 101])) (.cons false (.cst (.str [116, 101, 120, 116])) .nil))))))))) (.cons (.asg (.one 1) (.ite (.cmp .isin (.var 4) (.tup (.cons false (.cst (.str [98, 121])) (.cons false (.cst (.str [116, 97, 103])) .nil)))) (.cst (.str [110, 97, 109, 101])) (.ite (.cmp .eq (.var 4) (.cst (.str [116, 101, 120, 116]))) (.var 4) (.ite (.cmp .eq (.var 4) (.cst (.str [102, 105, 108, 101]))) (.cst (.str [112, 97, 116, 104])) (.cst (.str [105, 100])))))) .nil) (.cons (.ifS (.cmp .notin (.var 4) (.tup (.cons false (.cst (.str [110, 111, 116])) (.cons false (.cst (.str [110, 101, 101, 100, 115])) .nil)))) (.cons (.ret (.var 3)) .nil) .nil) .nil)) .nil)) .nil)) .nil) (.cons (.ifS (.cmp .eq (.var 1) (.cst (.str [109, 111, 114, 101]))) (.cons (.ifS (.cmp .isin (.var 4) (.tup (.cons false (.cst (.str [97, 110, 100])) (.cons false (.cst (.str [111, 114])) .nil)))) (.cons (.asg (.one 1) (.cst (.str [97, 115, 107]))) .nil) (.cons (.ifS (.and (.cmp .eq (.var 4) (.cst (.str [41]))) (.cmp .gt (.var 2) (.cst (.int 0)))) (.cons (.asg (.one 2) (.bin .sub (.var 2) (.cst (.int 1)))) .nil) (.cons (.ret (.var 3)) .nil)) .nil)) .nil) (.cons (.ifS (.not (.call 37 (.cons false (.var 1) (.cons false (.var 4) .nil)))) (.cons (.ret (.var 3)) .nil) .nil) (.cons (.asg (.one 1) (.cst (.str [109, 111, 114, 101]))) .nil))) .nil)) .nil))
abbrev RA : Ss := (.cons (.ifS (.cmp .eq (.var 4) (.cst (.str [40]))) (.cons (.asg (.one 2) (.bin .add (.var 2) (.cst (.int 1)))) .nil) (.cons (.ifS (.cmp .isin (.var 4) (.tup (.cons false (.cst (.str [97, 108, 108])) (.cons false (.cst (.str [110, 111, 110, 101])) (.cons false (.cst (.str [116, 111, 112, 115])) .nil))))) (.cons (.asg (.one 1) (.cst (.str [109, 111, 114, 101]))) .nil) (.cons (.ifS (.cmp .isin (.var 4) (.tup (.cons false (.cst (.str [98, 121])) (.cons false (.cst (.str [116, 97, 103])) (.cons false (.cst (.str [105, 100])) (.cons false (.cst (.str [117, 110, 100, 101, 114])) (.cons false (.cst (.str [111, 118, 101, 114])) (.cons false (.cst (.str [102, 105, 108, 101])) (.cons false (.cst (.str [116, 101, 120, 116])) .nil))))))))) (.cons (.asg (.one 1) (.ite (.cmp .isin (.var 4) (.tup (.cons false (.cst (.str [98, 121])) (.cons false (.cst (.str [116, 97, 103])) .nil)))) (.cst (.str [110, 97, 109, 101])) (.ite (.cmp .eq (.var 4) (.cst (.str [116, 101, 120, 116]))) (.var 4) (.ite (.cmp .eq (.var 4) (.cst (.str [102, 105, 108, 101]))) (.cst (.str [112, 97, 116, 104])) (.cst (.str [105, 100])))))) .nil) (.cons (.ifS (.cmp .notin (.var 4) (.tup (.cons false (.cst (.str [110, 111, 116])) (.cons false (.cst (.str [110, 101, 101, 100, 115])) .nil)))) (.cons (.ret (.var 3)) .nil) .nil) .nil)) .nil)) .nil)) .nil)
abbrev RM : Ss := (.cons (.ifS (.cmp .isin (.var 4) (.tup (.cons false (.cst (.str [97, 110, 100])) (.cons false (.cst (.str [111, 114])) .nil)))) (.cons (.asg (.one 1) (.cst (.str [97, 115, 107]))) .nil) (.cons (.ifS (.and (.cmp .eq (.var 4) (.cst (.str [41]))) (.cmp .gt (.var 2) (.cst (.int 0)))) (.cons (.asg (.one 2) (.bin .sub (.var 2) (.cst (.int 1)))) .nil) (.cons (.ret (.var 3)) .nil)) .nil)) .nil)
abbrev RO : Ss := (.cons (.ifS (.not (.call 37 (.cons false (.var 1) (.cons false (.var 4) .nil)))) (.cons (.ret (.var 3)) .nil) .nil) (.cons (.asg (.one 1) (.cst (.str [109, 111, 114, 101]))) .nil))
def stepM (w : W) (wants : W) (op : Nat) : Option (W × Nat) :=
    if wants = kA then (if w = [40] then some (kA, op + 1) else if w ∈ BA then some (kM, op) else if w ∈ LK then some (kindS w, op) else if w ∈ AH then some (kA, op) else none)
    else if wants = kM then (if w ∈ JO then some (kA, op) else if w = [41] ∧ 0 < op then some (kM, op - 1) else none)
    else (if fitM wants w then some (kM, op) else none)
theorem right_step (w : W) (r : List W) (k : Nat) (wants : W) (op : Nat) : rightM (w :: r) k wants op = match stepM w wants op with | none => some k | some (a, b) => rightM r (k + 1) a b := by
  simp only [rightM, stepM]
  repeat' split
  all_goals first | rfl | (rename_i h; cases h; rfl) | skip
  all_goals simp_all
abbrev RS (ws : List W) (wants : W) (op : Nat) (s3 s4 : Slot) : List Slot := [.val (.lst (ws.map .str)), .val (.str wants), .val (.int op), s3, s4, .none, .none, .none]

theorem tr_str_eq (w v : W) : (w == v) = decide (w = v) := by
  by_cases h : w = v
  · subst h; simp
  · simp [h]
theorem ask_turn {cl : Cl} (ws : List W) (op k : Nat) (w : W) : evSs cl RA (RS ws kA op (.val (.int k)) (.val (.str w))) = match stepM w kA op with
    | none => .rt .v (.int k) (RS ws kA op (.val (.int k)) (.val (.str w)))
    | some (a, b) => .nx (RS ws a b (.val (.int k)) (.val (.str w))) := by
  have e40 : truthR (evE cl (.cmp .eq (.var 4) (.cst (.str [40]))) (RS ws kA op (.val (.int k)) (.val (.str w)))) = .ok (decide (w = [40])) := by
    show R.ok (w == [40]) = _
    rw [tr_str_eq]
  unfold stepM
  rw [if_pos rfl]
  rw [one_st]
  by_cases h40 : w = [40]
  · rw [decide_eq_true h40] at e40
    rw [if_pos h40, if_t e40]
    rfl
  · rw [decide_eq_false h40] at e40
    rw [if_neg h40, if_f e40, one_st]
    have eB : truthR (evE cl (.cmp .isin (.var 4) (.tup (.cons false (.cst (.str [97, 108, 108])) (.cons false (.cst (.str [110, 111, 110, 101])) (.cons false (.cst (.str [116, 111, 112, 115])) .nil))))) (RS ws kA op (.val (.int k)) (.val (.str w)))) = .ok (decide (w ∈ BA)) := by
      show truthR (match cmpD .isin (.str w) (.tup (BA.map .str)) with | some r => R.ok (Kd.v, D.bl r) | none => .stuck) = _
      rw [isin_tup]; rfl
    by_cases hB : w ∈ BA
    · rw [decide_eq_true hB] at eB
      rw [if_pos hB, if_t eB]
      rfl
    · rw [decide_eq_false hB] at eB
      rw [if_neg hB, if_f eB, one_st]
      have eK : truthR (evE cl (.cmp .isin (.var 4) (.tup (.cons false (.cst (.str [98, 121])) (.cons false (.cst (.str [116, 97, 103])) (.cons false (.cst (.str [105, 100])) (.cons false (.cst (.str [117, 110, 100, 101, 114])) (.cons false (.cst (.str [111, 118, 101, 114])) (.cons false (.cst (.str [102, 105, 108, 101])) (.cons false (.cst (.str [116, 101, 120, 116])) .nil))))))))) (RS ws kA op (.val (.int k)) (.val (.str w)))) = .ok (decide (w ∈ LK)) := by
        show truthR (match cmpD .isin (.str w) (.tup (LK.map .str)) with | some r => R.ok (Kd.v, D.bl r) | none => .stuck) = _
        rw [isin_tup]; rfl
      by_cases hK : w ∈ LK
      · rw [decide_eq_true hK] at eK
        rw [if_pos hK, if_t eK]
        simp only [LK, List.mem_cons, List.not_mem_nil, or_false] at hK
        rcases hK with rfl | rfl | rfl | rfl | rfl | rfl | rfl <;> rfl
      · rw [decide_eq_false hK] at eK
        rw [if_neg hK, if_f eK, one_st]
        have eA : truthR (evE cl (.cmp .notin (.var 4) (.tup (.cons false (.cst (.str [110, 111, 116])) (.cons false (.cst (.str [110, 101, 101, 100, 115])) .nil)))) (RS ws kA op (.val (.int k)) (.val (.str w)))) = .ok (!decide (w ∈ AH)) := by
          show truthR (match cmpD .notin (.str w) (.tup (AH.map .str)) with | some r => R.ok (Kd.v, D.bl r) | none => .stuck) = _
          rw [notin_tup]; rfl
        by_cases hA : w ∈ AH
        · rw [decide_eq_true hA] at eA
          rw [if_pos hA, if_f eA]
          rfl
        · rw [decide_eq_false hA] at eA
          rw [if_neg hA, if_t eA]
          rfl
theorem more_turn {cl : Cl} (ws : List W) (op k : Nat) (w : W) : evSs cl RM (RS ws kM op (.val (.int k)) (.val (.str w))) = match stepM w kM op with
    | none => .rt .v (.int k) (RS ws kM op (.val (.int k)) (.val (.str w)))
    | some (a, b) => .nx (RS ws a b (.val (.int k)) (.val (.str w))) := by
  unfold stepM
  rw [if_neg (show ¬ kM = kA by decide), if_pos rfl]
  rw [one_st]
  have eJ : truthR (evE cl (.cmp .isin (.var 4) (.tup (.cons false (.cst (.str [97, 110, 100])) (.cons false (.cst (.str [111, 114])) .nil)))) (RS ws kM op (.val (.int k)) (.val (.str w)))) = .ok (decide (w ∈ JO)) := by
    show truthR (match cmpD .isin (.str w) (.tup (JO.map .str)) with | some r => R.ok (Kd.v, D.bl r) | none => .stuck) = _
    rw [isin_tup]; rfl
  by_cases hJ : w ∈ JO
  · rw [decide_eq_true hJ] at eJ
    rw [if_pos hJ, if_t eJ]
    rfl
  · rw [decide_eq_false hJ] at eJ
    rw [if_neg hJ, if_f eJ, one_st]
    have e2 : truthR (evE cl (.and (.cmp .eq (.var 4) (.cst (.str [41]))) (.cmp .gt (.var 2) (.cst (.int 0)))) (RS ws kM op (.val (.int k)) (.val (.str w)))) = .ok (decide (w = [41] ∧ 0 < op)) := by
      have h1 : evE cl (.cmp .eq (.var 4) (.cst (.str [41]))) (RS ws kM op (.val (.int k)) (.val (.str w))) = .ok (.v, .bl (w == [41])) := rfl
      have h2 : evE cl (.cmp .gt (.var 2) (.cst (.int 0))) (RS ws kM op (.val (.int k)) (.val (.str w))) = .ok (.v, .bl (decide ((0 : Int) < op))) := rfl
      rw [e_and, h1, tr_str_eq]
      by_cases hc : w = [41]
      · rw [decide_eq_true hc]
        simp only [b_ok, tr_bl]
        rw [h2]
        simp [hc]
      · simp [hc]
    by_cases hC : w = [41] ∧ 0 < op
    · rw [decide_eq_true hC] at e2
      rw [if_pos hC, if_t e2, one_st]
      have : ((op : Int) - 1) = ((op - 1 : Nat) : Int) := by omega
      simp [getV, binD, this]
    · rw [decide_eq_false hC] at e2
      rw [if_neg hC, if_f e2]
      rfl
theorem other_turn {cl : Cl} (ws : List W) (op k : Nat) (w wants : W) (h1 : wants ≠ kA) (h2 : wants ≠ kM) {b : Bool} (hb : fitM wants w = b) (hc : cl 37 [.str wants, .str w] = .ok (.v, .bl b, [])) : evSs cl RO (RS ws wants op (.val (.int k)) (.val (.str w))) = match stepM w wants op with
    | none => .rt .v (.int k) (RS ws wants op (.val (.int k)) (.val (.str w)))
    | some (a, b) => .nx (RS ws a b (.val (.int k)) (.val (.str w))) := by
  unfold stepM
  rw [if_neg h1, if_neg h2, hb]
  have e : truthR (evE cl (.not (.call 37 (.cons false (.var 1) (.cons false (.var 4) .nil)))) (RS ws wants op (.val (.int k)) (.val (.str w)))) = .ok (!b) := by
    simp [getV, hc]
  cases b with
  | true =>
    rw [ss_nx (ρ' := RS ws wants op (.val (.int k)) (.val (.str w))) (by rw [if_f e]; rfl)]
    rfl
  | false =>
    rw [ss_rt (k := .v) (d := .int k) (ρ' := RS ws wants op (.val (.int k)) (.val (.str w))) (by rw [if_t e]; rfl)]
    rfl

/-- what is wanted: an ask, more, or a word of a kind -/
def wantsOk (wants : W) : Prop := wants = kA ∨ wants = kM ∨ ∃ u ∈ LK, wants = kindS u
theorem step_ok {w wants a : W} {op b : Nat} (h : stepM w wants op = some (a, b)) : wantsOk a := by
  unfold stepM at h
  repeat' split at h
  all_goals first
    | (cases h; exact .inl rfl)
    | (cases h; exact .inr (.inl rfl))
    | (cases h; done)
    | (cases h; rename_i h4; exact .inr (.inr ⟨w, h4, rfl⟩))
theorem turn (k : Nat) (ws : List W) (op i : Nat) (w wants : W) (hf : fitB w = true) (hw : wantsOk wants) (hi : ws[i]? = some w) (s4 : Slot) : evSs (callF pr (k + 30)) RB (RS ws wants op (.val (.int i)) s4) = match stepM w wants op with
    | none => .rt .v (.int i) (RS ws wants op (.val (.int i)) (.val (.str w)))
    | some (a, b) => .nx (RS ws a b (.val (.int i)) (.val (.str w))) := by
  have hl : i < ws.length := (List.getElem?_eq_some_iff.mp hi).1
  have t0 : evS (callF pr (k + 30)) (.asg (.one 4) (.idx (.var 0) (.var 3))) (RS ws wants op (.val (.int i)) s4) = .nx (RS ws wants op (.val (.int i)) (.val (.str w))) := by
    have h1 : evE (callF pr (k + 30)) (.idx (.var 0) (.var 3)) (RS ws wants op (.val (.int i)) s4) = .ok (.v, .str w) := by
      show okV (idxD (.lst (ws.map .str)) (.int i)) = _
      have : ixD (ws.map D.str).length (i : Int) = some i := by
        unfold ixD
        have h2 : (0 : Int) ≤ i := by omega
        have h3 : (i : Int) < (((ws.map D.str).length : Nat) : Int) := by simp; omega
        rw [if_pos h2, if_pos h3]
        simp
      simp only [ix_lst, this]
      simp [hi]
    rw [s_asg, h1]
    rfl
  rw [ss_nx t0, one_st]
  have eA : truthR (evE (callF pr (k + 30)) (.cmp .eq (.var 1) (.cst (.str [97, 115, 107]))) (RS ws wants op (.val (.int i)) (.val (.str w)))) = .ok (decide (wants = kA)) := by
    show R.ok (wants == kA) = _
    rw [tr_str_eq]
  by_cases hA : wants = kA
  · rw [decide_eq_true hA] at eA
    rw [if_t eA]
    subst hA
    exact ask_turn ws op i w
  · rw [decide_eq_false hA] at eA
    rw [if_f eA, one_st]
    have eM : truthR (evE (callF pr (k + 30)) (.cmp .eq (.var 1) (.cst (.str [109, 111, 114, 101]))) (RS ws wants op (.val (.int i)) (.val (.str w)))) = .ok (decide (wants = kM)) := by
      show R.ok (wants == kM) = _
      rw [tr_str_eq]
    by_cases hM : wants = kM
    · rw [decide_eq_true hM] at eM
      rw [if_t eM]
      subst hM
      exact more_turn ws op i w
    · rw [decide_eq_false hM] at eM
      rw [if_f eM]
      rcases hw with h | h | ⟨u, hu, rfl⟩
      · exact absurd h hA
      · exact absurd h hM
      · obtain ⟨h1, h2⟩ := fit_ok hf hu
        exact other_turn ws op i w (kindS u) hA hM h2 (h1 (k + 30) (by omega))
theorem right_loop (k : Nat) (ws : List W) (hf : ∀ v ∈ ws, fitB v = true) : ∀ (rest : List W) (i : Nat) (wants : W) (op : Nat) (s3 s4 : Slot), ws.drop i = rest → i ≤ ws.length → wantsOk wants →
    match rightM rest i wants op with
    | none => ∃ s3' s4', loopF (callF pr (k + 30)) (.one 3) RB (rngL i rest.length) (RS ws wants op s3 s4) = .nx (RS ws kM 0 s3' s4')
    | some j => (∃ a b s3' s4', loopF (callF pr (k + 30)) (.one 3) RB (rngL i rest.length) (RS ws wants op s3 s4) = .nx (RS ws a b s3' s4') ∧ ¬ (a = kM ∧ b = 0) ∧ j = ws.length) ∨ ∃ ρ, loopF (callF pr (k + 30)) (.one 3) RB (rngL i rest.length) (RS ws wants op s3 s4) = .rt .v (.int j) ρ := by
  intro rest
  induction rest with
  | nil =>
    intro i wants op s3 s4 hd hi hw
    have hl : ws.length ≤ i := List.drop_eq_nil_iff.mp hd
    simp only [rightM]
    by_cases h : wants = kM ∧ op = 0
    · rw [if_pos h]
      obtain ⟨rfl, rfl⟩ := h
      exact ⟨s3, s4, rfl⟩
    · rw [if_neg h]
      exact .inl ⟨wants, op, s3, s4, rfl, h, by omega⟩
  | cons w rest ih =>
    intro i wants op s3 s4 hd hi hw
    have hg : ws[i]? = some w := by
      have : (ws.drop i)[0]? = some w := by rw [hd]; rfl
      simpa using this
    have hl : i < ws.length := (List.getElem?_eq_some_iff.mp hg).1
    have hm : w ∈ ws := List.mem_of_getElem? hg
    have hd2 : ws.drop (i + 1) = rest := by
      rw [← List.drop_drop, hd]; rfl
    have t := turn k ws op i w wants (hf w hm) hw hg s4
    have e0 : loopF (callF pr (k + 30)) (.one 3) RB (rngL i (w :: rest).length) (RS ws wants op s3 s4) = match evSs (callF pr (k + 30)) RB (RS ws wants op (.val (.int i)) s4) with
      | .nx ρ' => loopF (callF pr (k + 30)) (.one 3) RB (rngL (i + 1 : Nat) rest.length) ρ'
      | .ct ρ' => loopF (callF pr (k + 30)) (.one 3) RB (rngL (i + 1 : Nat) rest.length) ρ'
      | .bk ρ' => .bk ρ'
      | o => o := rfl
    rw [right_step, e0, t]
    cases hs : stepM w wants op with
    | none => exact .inr ⟨_, rfl⟩
    | some p =>
      obtain ⟨a, b⟩ := p
      exact ih (i + 1) a b _ _ hd2 hl (step_ok hs)

def rightD : Option Nat → D
  | none => .non
  | some i => .int i
end K12
end

section
set_option linter.all false
set_option maxRecDepth 100000
set_option maxHeartbeats 1000000
/-! K12g: law_right. -/
namespace K12
open Ev
theorem z62_len {n : Nat} (h : n ≤ 1000000) : z62 (n : Int) = true := by
  unfold z62
  rw [Bool.and_eq_true]
  exact ⟨decide_eq_true (by omega), decide_eq_true (by omega)⟩
theorem items_len {n : Nat} (h : n ≤ 1000000) : itemsOf .rng1 [D.int n] = some (rngL 0 n) := by
  simp only [itemsOf]
  rw [if_pos (z62_len h), Int.toNat_natCast]
theorem for_rng {cl : Cl} {e : E} {b : Ss} {ρ : List Slot} {i n : Nat} (h : n ≤ 1000000) (he : evE cl e ρ = .ok (.v, .int n)) : evS cl (.forS (.one i) .rng1 (.cons false e .nil) b) ρ = unlockO none (loopF cl (.one i) b (rngL 0 n) ρ) := by
  have es : evEs cl (.cons false e .nil) ρ = .ok [(.v, .int n)] := by rw [es_cons, he]; rfl
  rw [s_for, es, o_ok]
  have e2 : itemsOf .rng1 (List.map (fun p : Kd × D => p.2) [(Kd.v, D.int n)]) = some (rngL 0 n) := items_len h
  rw [e2]
  have e3 : hasB [(Kd.v, D.int n)] = false := rfl
  rw [e3]
  generalize rngL 0 n = ds
  simp only [Bool.false_eq_true, if_false]
  rfl
/-- LAW_RIGHT -/
theorem law_right (k : Nat) {ws : List W} (hf : ∀ v ∈ ws, fitB v = true) (hl : ws.length ≤ 1000000) : callF pr (k + 31) 38 [.lst (ws.map .str)] = .ok (.v, rightD (rightM ws 0 kA 0), []) := by
  rw [cf (fn := f38) rfl rfl]
  have h := right_loop k ws hf ws 0 kA 0 .none .none rfl (Nat.zero_le _) (.inl rfl)
  show Ev.finish f38 (evSs (callF pr (k + 30)) (.cons (.asg (.one 1) (.cst (.str [97, 115, 107]))) (.cons (.asg (.one 2) (.cst (.int 0))) (.cons (.forS (.one 3) .rng1 (.cons false (.blt .len (.cons false (.var 0) .nil)) .nil) RB) (.cons (.ret (.ite (.and (.cmp .eq (.var 1) (.cst (.str [109, 111, 114, 101]))) (.cmp .eq (.var 2) (.cst (.int 0)))) (.cst (.non)) (.blt .len (.cons false (.var 0) .nil)))) .nil))))
    [.val (.lst (ws.map .str)), .none, .none, .none, .none, .none, .none, .none]) = _
  rw [ss_nx (ρ' := [.val (.lst (ws.map .str)), .val (.str kA), .none, .none, .none, .none, .none, .none]) (by rfl), ss_nx (ρ' := RS ws kA 0 .none .none) (by rfl)]
  have e3 : ∀ a (b : Nat) s3 s4, evE (callF pr (k + 30)) (.blt .len (.cons false (.var 0) .nil)) (RS ws a b s3 s4) = .ok (.v, .int ws.length) := by
    intro a b s3 s4
    show okV (some (.int ((ws.map D.str).length : Nat))) = _
    simp
  have ef := for_rng (cl := callF pr (k + 30)) (e := .blt .len (.cons false (.var 0) .nil)) (b := RB) (ρ := RS ws kA 0 .none .none) (i := 3) hl (e3 kA 0 .none .none)
  have er : ∀ a (b : Nat) s3 s4, evS (callF pr (k + 30)) (.ret (.ite (.and (.cmp .eq (.var 1) (.cst (.str [109, 111, 114, 101]))) (.cmp .eq (.var 2) (.cst (.int 0)))) (.cst (.non)) (.blt .len (.cons false (.var 0) .nil)))) (RS ws a b s3 s4) = .rt .v (if a = kM ∧ b = 0 then .non else .int ws.length) (RS ws a b s3 s4) := by
    intro a b s3 s4
    have h1 : evE (callF pr (k + 30)) (.cmp .eq (.var 1) (.cst (.str [109, 111, 114, 101]))) (RS ws a b s3 s4) = .ok (.v, .bl (decide (a = kM))) := by
      show R.ok (Kd.v, D.bl (a == kM)) = _
      rw [tr_str_eq]
    have h2 : evE (callF pr (k + 30)) (.cmp .eq (.var 2) (.cst (.int 0))) (RS ws a b s3 s4) = .ok (.v, .bl (decide (b = 0))) := by
      show R.ok (Kd.v, D.bl (((b : Nat) : Int) == 0)) = _
      have : (((b : Nat) : Int) == 0) = decide (b = 0) := by
        by_cases h : b = 0
        · subst h; rfl
        · have h3 : ¬ ((b : Nat) : Int) = 0 := by omega
          simp [h]
      rw [this]
    have h3 := e3 a b s3 s4
    rw [s_ret, e_ite, e_and, h1]
    by_cases ha : a = kM
    · rw [decide_eq_true ha]
      simp only [b_ok, tr_bl]
      rw [h2]
      by_cases hb : b = 0
      · rw [decide_eq_true hb, if_pos ⟨ha, hb⟩]
        rfl
      · rw [decide_eq_false hb, if_neg (fun z => hb z.2)]
        simp only [b_ok, tr_bl]
        rw [h3]
        rfl
    · rw [decide_eq_false ha, if_neg (fun z => ha z.1)]
      simp only [b_ok, tr_bl]
      rw [h3]
      rfl
  cases hR : rightM ws 0 kA 0 with
  | none =>
    rw [hR] at h
    obtain ⟨s3, s4, e⟩ := h
    rw [ss_nx (ρ' := RS ws kM 0 s3 s4) (by rw [ef]; exact congrArg (unlockO none) e), one_st, er, if_pos ⟨rfl, rfl⟩]
    rfl
  | some j =>
    rw [hR] at h
    rcases h with ⟨a, b, s3, s4, e, hn, rfl⟩ | ⟨ρ, e⟩
    · rw [ss_nx (ρ' := RS ws a b s3 s4) (by rw [ef]; exact congrArg (unlockO none) e), one_st, er, if_neg hn]
      rfl
    · rw [ss_rt (k := .v) (d := .int j) (ρ' := ρ) (by rw [ef]; exact congrArg (unlockO none) e)]
      rfl
end K12
end

section
set_option linter.all false
set_option maxRecDepth 100000
set_option maxHeartbeats 1000000
/-! K12j: a comprehension whose turns all come out. -/
namespace K12
open Ev
theorem loop_some {cl : Cl} {own : List Nat} {tg : Tg} {c e : E} {ρ : List Slot} : ∀ ds : List D, (∀ d ∈ ds, ∃ o, stepC cl own tg c e ρ d = .ok o) → ∃ r, loopC cl own tg c e ρ ds = .ok r
  | [], _ => ⟨[], rfl⟩
  | d :: ds, h => by
    obtain ⟨o, ho⟩ := h d (List.mem_cons_self ..)
    obtain ⟨r, hr⟩ := loop_some ds fun x hx => h x (List.mem_cons_of_mem _ hx)
    rw [loopC_cons, ho, hr]
    cases o with
    | none => exact ⟨r, rfl⟩
    | some x => exact ⟨x :: r, rfl⟩
theorem mem_rng : ∀ (n : Nat) (lo : Int) (d : D), d ∈ rngL lo n → ∃ j : Nat, j < n ∧ d = .int (lo + j)
  | 0, _, _, h => by cases h
  | n + 1, lo, d, h => by
    rcases List.mem_cons.mp h with h | h
    · exact ⟨0, by omega, by rw [h]; simp⟩
    · obtain ⟨j, hj, e⟩ := mem_rng n (lo + 1) d h
      refine ⟨j + 1, by omega, ?_⟩
      rw [e]
      congr 1
      omega
end K12
end

section
set_option linter.all false
set_option maxRecDepth 100000
set_option maxHeartbeats 1000000
/-! K12k: law_doubtful says yes or no. -/
namespace K12
open Ev
def intsD (r : List D) : Prop := ∀ x ∈ r, ∃ i : Int, x = .int i
theorem loop_ints {cl : Cl} {own : List Nat} {tg : Tg} {c e : E} {ρ : List Slot} : ∀ ds : List D, (∀ d ∈ ds, stepC cl own tg c e ρ d = .ok none ∨ ∃ i : Int, stepC cl own tg c e ρ d = .ok (some (.int i))) → ∃ r, loopC cl own tg c e ρ ds = .ok r ∧ intsD r
  | [], _ => ⟨[], rfl, fun _ h => by cases h⟩
  | d :: ds, h => by
    obtain ⟨r, hr, hi⟩ := loop_ints ds fun x hx => h x (List.mem_cons_of_mem _ hx)
    rcases h d (List.mem_cons_self ..) with ho | ⟨i, ho⟩
    · exact ⟨r, by rw [loopC_cons, ho, hr]; rfl, hi⟩
    · exact ⟨.int i :: r, by rw [loopC_cons, ho, hr]; rfl, fun x hx => (List.mem_cons.mp hx).elim (fun e => ⟨i, e⟩) (hi x)⟩
abbrev SOME : List W := [[97, 110, 100], [111, 114], [110, 111, 116], [110, 101, 101, 100, 115], [98, 121], [105, 100], [102, 105, 108, 101], [97, 108, 108], [116, 97, 103], [110, 111, 110, 101], [116, 111, 112, 115], [117, 110, 100, 101, 114], [111, 118, 101, 114], [116, 101, 120, 116]]
abbrev ST3 : List W := [[98, 121], [116, 97, 103], [102, 105, 108, 101]]
abbrev dC : E := (.and (.cmp .isin (.idx (.var 0) (.var 4)) (.tup (.cons false (.cst (.str [98, 121])) (.cons false (.cst (.str [116, 97, 103])) (.cons false (.cst (.str [102, 105, 108, 101])) .nil))))) (.cmp .isin (.idx (.var 0) (.bin .add (.var 4) (.cst (.int 1)))) (.var 1)))
theorem idx_row {ws : List W} {i : Nat} {w : W} (h : ws[i]? = some w) : idxD (.lst (ws.map .str)) (.int i) = some (.str w) := by
  have hl : i < ws.length := (List.getElem?_eq_some_iff.mp h).1
  have : ixD (ws.map D.str).length (i : Int) = some i := by
    unfold ixD
    have h2 : (0 : Int) ≤ i := by omega
    have h3 : (i : Int) < (((ws.map D.str).length : Nat) : Int) := by simp; omega
    rw [if_pos h2, if_pos h3]
    simp
  simp only [ix_lst, this]
  simp [h]
theorem doubt_step {cl : Cl} (ws : List W) (j : Nat) (hj : j + 1 < ws.length) (s2 s3 s4 s5 : Slot) : stepC cl [4] (.one 4) dC (.var 4) [.val (.lst (ws.map .str)), .own (.lst (SOME.map .str)), s2, s3, s4, s5] (.int j) = .ok none ∨ ∃ i : Int, stepC cl [4] (.one 4) dC (.var 4) [.val (.lst (ws.map .str)), .own (.lst (SOME.map .str)), s2, s3, s4, s5] (.int j) = .ok (some (.int i)) := by
  have ha : ws[j]? = some ws[j] := List.getElem?_eq_getElem (by omega)
  have hb : ws[j + 1]? = some ws[j + 1] := List.getElem?_eq_getElem hj
  have h1 : evE cl (.cmp .isin (.idx (.var 0) (.var 4)) (.tup (.cons false (.cst (.str [98, 121])) (.cons false (.cst (.str [116, 97, 103])) (.cons false (.cst (.str [102, 105, 108, 101])) .nil))))) [.val (.lst (ws.map .str)), .own (.lst (SOME.map .str)), s2, s3, .val (.int j), s5] = .ok (.v, .bl (decide (ws[j] ∈ ST3))) := by
    have e : evE cl (.idx (.var 0) (.var 4)) [.val (.lst (ws.map .str)), .own (.lst (SOME.map .str)), s2, s3, .val (.int j), s5] = .ok (.v, .str ws[j]) := by
      show okV (idxD (.lst (ws.map .str)) (.int j)) = _
      rw [idx_row ha]; rfl
    rw [e_cmp, e]
    show (match cmpD .isin (.str ws[j]) (.tup (ST3.map .str)) with | some r => R.ok (Kd.v, D.bl r) | none => .stuck) = _
    rw [isin_tup]
  have h2 : evE cl (.cmp .isin (.idx (.var 0) (.bin .add (.var 4) (.cst (.int 1)))) (.var 1)) [.val (.lst (ws.map .str)), .own (.lst (SOME.map .str)), s2, s3, .val (.int j), s5] = .ok (.v, .bl (decide (ws[j + 1] ∈ SOME))) := by
    have e : evE cl (.idx (.var 0) (.bin .add (.var 4) (.cst (.int 1)))) [.val (.lst (ws.map .str)), .own (.lst (SOME.map .str)), s2, s3, .val (.int j), s5] = .ok (.v, .str ws[j + 1]) := by
      show okV (idxD (.lst (ws.map .str)) (.int ((j + 1 : Nat) : Int))) = _
      rw [idx_row hb]; rfl
    rw [e_cmp, e]
    show (match cmpD .isin (.str ws[j + 1]) (.lst (SOME.map .str)) with | some r => R.ok (Kd.v, D.bl r) | none => .stuck) = _
    rw [isin_lst]
  have hc : ∃ b, truthR (evE cl dC [.val (.lst (ws.map .str)), .own (.lst (SOME.map .str)), s2, s3, .val (.int j), s5]) = .ok b := by
    rw [e_and, h1]
    cases decide (ws[j] ∈ ST3) with
    | false => exact ⟨false, rfl⟩
    | true =>
      simp only [b_ok, tr_bl]
      rw [h2]
      exact ⟨_, rfl⟩
  obtain ⟨b, hc⟩ := hc
  have e : ∀ x, (truthR (evE cl dC [.val (.lst (ws.map .str)), .own (.lst (SOME.map .str)), s2, s3, .val (.int j), s5])) = x → stepC cl [4] (.one 4) dC (.var 4) [.val (.lst (ws.map .str)), .own (.lst (SOME.map .str)), s2, s3, s4, s5] (.int j) = x.bind fun b => if b then R.ok (some (D.int j)) else R.ok none := by
    intro x hx
    rw [← hx]
    rfl
  rw [e _ hc]
  cases b with
  | true => exact .inr ⟨j, rfl⟩
  | false => exact .inl rfl

theorem ints_dep {r : List D} (h : intsD r) : dep (.lst r) ≤ 60 := by
  have : ∀ r : List D, intsD r → deps r ≤ 1 := by
    intro r
    induction r with
    | nil => intro _; simp [deps]
    | cons x r ih =>
      intro h
      obtain ⟨i, rfl⟩ := h x (List.mem_cons_self ..)
      have := ih fun y hy => h y (List.mem_cons_of_mem _ hy)
      simp only [deps, dep]
      omega
  have := this r h
  simp only [dep]
  omega

theorem rng_len : ∀ (n : Nat) (lo : Int), (rngL lo n).length = n
  | 0, _ => rfl
  | n + 1, lo => by show (rngL (lo + 1) n).length + 1 = _; rw [rng_len n]
theorem cmpr_rng {cl : Cl} {e c v : E} {own : List Nat} {tg : Tg} {ρ : List Slot} {n : Nat} {r : List D} (h : n ≤ 1000000) (he : evE cl e ρ = .ok (.v, .int n)) (hr : loopC cl own tg c v ρ (rngL 0 n) = .ok r) : evE cl (.cmpr own tg .rng1 (.cons false e .nil) c v) ρ = .ok (.f, .lst r) := by
  have es : evEs cl (.cons false e .nil) ρ = .ok [(.v, .int n)] := by rw [es_cons, he]; rfl
  rw [e_cmpr, es, b_ok]
  have e2 : itemsOf .rng1 (List.map (fun p : Kd × D => p.2) [(Kd.v, D.int n)]) = some (rngL 0 n) := items_len h
  rw [e2]
  have hl : (rngL 0 n).length ≤ szl := by rw [rng_len]; unfold szl; omega
  generalize rngL 0 n = ds at hr hl
  simp only [hr, q_ok, b_ok, if_pos hl]
/-- LAW_DOUBTFUL -/
theorem law_doubtful (k : Nat) {ws : List W} (h0 : ws ≠ []) (hl : ws.length ≤ 1000000) : ∃ b, callF pr (k + 1) 39 [.lst (ws.map .str)] = .ok (.v, .bl b, []) := by
  rw [cf (fn := f39) rfl rfl]
  have hp : 0 < ws.length := List.length_pos_iff.mpr h0
  have st : ∀ d ∈ rngL 0 (ws.length - 1), stepC (callF pr k) [4] (.one 4) dC (.var 4) [.val (.lst (ws.map .str)), .own (.lst (SOME.map .str)), .none, .none, .none, .none] d = .ok none ∨ ∃ i : Int, stepC (callF pr k) [4] (.one 4) dC (.var 4) [.val (.lst (ws.map .str)), .own (.lst (SOME.map .str)), .none, .none, .none, .none] d = .ok (some (.int i)) := by
    intro d hd
    obtain ⟨j, hj, e⟩ := mem_rng _ _ _ hd
    rw [Int.zero_add] at e
    subst e
    exact doubt_step (cl := callF pr k) ws j (by omega) .none .none .none .none
  obtain ⟨r, hr, hi⟩ := loop_ints _ st
  have el : evE (callF pr k) (.bin .sub (.blt .len (.cons false (.var 0) .nil)) (.cst (.int 1))) [.val (.lst (ws.map .str)), .own (.lst (SOME.map .str)), .none, .none, .none, .none] = .ok (.v, .int (ws.length - 1 : Nat)) := by
    show okK (some (Kd.v, D.int (((ws.map D.str).length : Nat) - 1))) = _
    have : (((ws.map D.str).length : Nat) : Int) - 1 = ((ws.length - 1 : Nat) : Int) := by simp; omega
    rw [this]; rfl
  have ec := cmpr_rng (by omega) el hr
  have d0 : dep (.lst []) ≤ 60 := by decide
  have ecm : evE (callF pr k) (.cmp .ne (.cmpr [4] (.one 4) .rng1 (.cons false (.bin .sub (.blt .len (.cons false (.var 0) .nil)) (.cst (.int 1))) .nil) dC (.var 4)) (.lst .nil)) [.val (.lst (ws.map .str)), .own (.lst (SOME.map .str)), .none, .none, .none, .none] = .ok (.v, .bl (!eqD (.lst r) (.lst []))) := by
    rw [e_cmp, ec, b_ok]
    have : evE (callF pr k) (.lst .nil) [.val (.lst (ws.map .str)), .own (.lst (SOME.map .str)), .none, .none, .none, .none] = .ok (.f, .lst []) := rfl
    rw [this, b_ok]
    simp only [cmpD, if_pos (And.intro (ints_dep hi) d0)]
  refine ⟨!eqD (.lst r) (.lst []), ?_⟩
  show Ev.finish f39 (evSs (callF pr k) (.cons _ (.cons (.ret (.cmp .ne (.cmpr [4] (.one 4) .rng1 (.cons false (.bin .sub (.blt .len (.cons false (.var 0) .nil)) (.cst (.int 1))) .nil) dC (.var 4)) (.lst .nil))) .nil)) [.val (.lst (ws.map .str)), .none, .none, .none, .none, .none]) = _
  rw [ss_nx (ρ' := [.val (.lst (ws.map .str)), .own (.lst (SOME.map .str)), .none, .none, .none, .none]) (by rfl), one_st, s_ret, ecm]
  rfl
end K12
end

section
set_option linter.all false
set_option maxRecDepth 100000
set_option maxHeartbeats 1000000
/-! K12l: law_cell. -/
namespace K12
open Ev
theorem law_cell (k : Nat) (ns : List Int) (i : Nat) (hl : ns.length ≤ 1000000) : callF pr (k + 1) 31 [.scr ns, .int i] = .ok (.v, .int (ns.getD i 0), []) := by
  rw [cf (fn := f31) rfl rfl]
  by_cases h : i < ns.length
  · have h2 : (i : Int) < (ns.length : Int) := by omega
    have h3 : ixD ns.length (i : Int) = some i := by
      unfold ixD
      rw [if_pos (by omega), if_pos h2]
      simp
    simp [f31, startF, getV, starL, bltD, lt_int, h2, h3, idxD, h, List.getElem?_eq_getElem h]
  · have h2 : ¬ (i : Int) < (ns.length : Int) := by omega
    simp [f31, startF, getV, starL, bltD, lt_int, h2, List.getElem?_eq_none (by omega : ns.length ≤ i)]
end K12
end

section
set_option linter.all false
set_option maxRecDepth 100000
set_option maxHeartbeats 1000000
/-! K12m: law_numbers. -/
namespace K12
open Ev
abbrev NB : Ss := (.cons (.ifS (.cmp .ge (.var 3) (.bin .pow (.cst (.int 10)) (.cst (.int 18)))) (.cons (.app 4 (.e (.bin .mod (.blt .int1 (.cons false (.var 5) .nil)) (.bin .pow (.cst (.int 10)) (.cst (.int 9)))))) (.cons (.asg (.one 5) (.bin .fdiv (.var 5) (.bin .pow (.cst (.int 10)) (.cst (.int 9))))) .nil)) (.cons (.asg (.one 7) (.bin .mod (.blt .int1 (.cons false (.bin .add (.bin .add (.bin .mul (.var 3) (.cst (.int 48271))) (.bin .mul (.bin .add (.var 6) (.cst (.int 1))) (.cst (.int 69621)))) (.var 1)) .nil)) (.cst (.int 2147483647)))) (.cons (.app 4 (.e (.bin .mod (.bin .mod (.blt .int1 (.cons false (.bin .add (.bin .mul (.var 7) (.cst (.int 16807))) (.bin .mul (.bin .add (.var 6) (.cst (.int 3))) (.cst (.int 40692)))) .nil)) (.cst (.int 2147483399))) (.bin .pow (.cst (.int 10)) (.cst (.int 9)))))) .nil))) .nil)
abbrev NA : Ss := (.cons (.app 4 (.e (.bin .mod (.blt .int1 (.cons false (.var 5) .nil)) (.bin .pow (.cst (.int 10)) (.cst (.int 9)))))) (.cons (.asg (.one 5) (.bin .fdiv (.var 5) (.bin .pow (.cst (.int 10)) (.cst (.int 9))))) .nil))
abbrev NC : Ss := (.cons (.asg (.one 7) (.bin .mod (.blt .int1 (.cons false (.bin .add (.bin .add (.bin .mul (.var 3) (.cst (.int 48271))) (.bin .mul (.bin .add (.var 6) (.cst (.int 1))) (.cst (.int 69621)))) (.var 1)) .nil)) (.cst (.int 2147483647)))) (.cons (.app 4 (.e (.bin .mod (.bin .mod (.blt .int1 (.cons false (.bin .add (.bin .mul (.var 7) (.cst (.int 16807))) (.bin .mul (.bin .add (.var 6) (.cst (.int 3))) (.cst (.int 40692)))) .nil)) (.cst (.int 2147483399))) (.bin .pow (.cst (.int 10)) (.cst (.int 9)))))) .nil))
abbrev NS (sc : D) (spot cell : Int) (acc : List Int) (rem : Int) (s6 s7 : Slot) : List Slot := [.val sc, .val (.int spot), .val (.int 9), .val (.int cell), .own (.lst (acc.map .int)), .val (.int rem), s6, s7, .none, .none, .none]
theorem num_turn {cl : Cl} (sc : D) (spot cell : Int) (acc : List Int) (rem : Int) (k : Int) (s7 : Slot) (ha : acc.length < 1000) : ∃ (x rem' : Int) (s7' : Slot), evSs cl NB (NS sc spot cell acc rem (.val (.int k)) s7) = .nx (NS sc spot cell (acc ++ [x]) rem' (.val (.int k)) s7') ∧ 0 ≤ x := by
  have hz : acc.length < szl := by unfold szl; omega
  have hz2 : (acc.map D.int).length < szl := by simpa using hz
  have c : truthR (evE cl (.cmp .ge (.var 3) (.bin .pow (.cst (.int 10)) (.cst (.int 18)))) (NS sc spot cell acc rem (.val (.int k)) s7)) = .ok (decide (1000000000000000000 ≤ cell)) := by
    simp [getV, binD, ge_int]
  rw [one_st]
  by_cases h : 1000000000000000000 ≤ cell
  · rw [decide_eq_true h] at c
    rw [if_t c]
    refine ⟨rem % 1000000000, rem / 1000000000, s7, ?_, Int.emod_nonneg _ (by decide)⟩
    rw [ss_nx (ρ' := NS sc spot cell (acc ++ [rem % 1000000000]) rem (.val (.int k)) s7), one_st]
    · simp [getV, binD, bltD, starL]
    · simp [getV, getOwn, binD, bltD, starL, hz]
  · rw [decide_eq_false h] at c
    rw [if_f c]
    refine ⟨(((cell * 48271 + (k + 1) * 69621 + spot) % 2147483647) * 16807 + (k + 3) * 40692) % 2147483399 % 1000000000, rem, .val (.int ((cell * 48271 + (k + 1) * 69621 + spot) % 2147483647)), ?_, Int.emod_nonneg _ (by decide)⟩
    rw [ss_nx (ρ' := NS sc spot cell acc rem (.val (.int k)) (.val (.int ((cell * 48271 + (k + 1) * 69621 + spot) % 2147483647)))), one_st]
    · simp [getV, getOwn, binD, bltD, starL, hz]
    · simp [getV, binD, bltD, starL]

theorem num_loop {cl : Cl} (sc : D) (spot cell : Int) : ∀ (n : Nat) (lo : Int) (acc : List Int) (rem : Int) (s6 s7 : Slot), acc.length + n < 1000 → (∀ x ∈ acc, (0 : Int) ≤ x) →
    ∃ (out : List Int) (rem' : Int) (s6' s7' : Slot), loopF cl (.one 6) NB (rngL lo n) (NS sc spot cell acc rem s6 s7) = .nx (NS sc spot cell out rem' s6' s7') ∧ out.length = acc.length + n ∧ (∀ x ∈ out, (0 : Int) ≤ x) := by
  intro n
  induction n with
  | zero => intro lo acc rem s6 s7 _ h; exact ⟨acc, rem, s6, s7, rfl, rfl, h⟩
  | succ n ih =>
    intro lo acc rem s6 s7 hn h
    obtain ⟨x, r1, s71, e, hx⟩ := num_turn (cl := cl) sc spot cell acc rem lo s7 (by omega)
    obtain ⟨out, r2, s62, s72, e2, l2, h2⟩ := ih (lo + 1) (acc ++ [x]) r1 (.val (.int lo)) s71 (by simp; omega) (fun y hy => by
      rcases List.mem_append.mp hy with hy | hy
      · exact h y hy
      · rw [List.mem_singleton.mp hy]; exact hx)
    refine ⟨out, r2, s62, s72, ?_, by rw [l2]; simp; omega, h2⟩
    have e0 : loopF cl (.one 6) NB (rngL lo (n + 1)) (NS sc spot cell acc rem s6 s7) = match evSs cl NB (NS sc spot cell acc rem (.val (.int lo)) s7) with
      | .nx ρ' => loopF cl (.one 6) NB (rngL (lo + 1) n) ρ'
      | .ct ρ' => loopF cl (.one 6) NB (rngL (lo + 1) n) ρ'
      | .bk ρ' => .bk ρ'
      | o => o := rfl
    rw [e0, e]
    exact e2
/-- LAW_NUMBERS -/
theorem law_numbers (k : Nat) (ns : List Int) (spot : Nat) (hl : ns.length ≤ 1000000) : ∃ out : List Int, callF pr (k + 2) 32 [.scr ns, .int spot, .int 9] = .ok (.f, .lst (out.map .int), []) ∧ out.length = 9 ∧ ∀ x ∈ out, (0 : Int) ≤ x := by
  rw [cf (fn := f32) rfl rfl]
  have hc := law_cell k ns spot hl
  obtain ⟨out, r, s6, s7, e, hl2, hp⟩ := num_loop (cl := callF pr (k + 1)) (.scr ns) spot (ns.getD spot 0) 9 0 [] (ns.getD spot 0) .none .none (by decide) (fun _ h => by cases h)
  refine ⟨out, ?_, by simpa using hl2, hp⟩
  have t0 : evS (callF pr (k + 1)) (.asg (.one 3) (.call 31 (.cons false (.var 0) (.cons false (.var 1) .nil)))) [.val (.scr ns), .val (.int spot), .val (.int 9), .none, .none, .none, .none, .none, .none, .none, .none] = .nx [.val (.scr ns), .val (.int spot), .val (.int 9), .val (.int (ns.getD spot 0)), .none, .none, .none, .none, .none, .none, .none] := by
    rw [s_asg, e_call, es_cons, es_cons]
    simp only [e_var]
    simp [getV, starL, hc]
  have ef := for_rng (cl := callF pr (k + 1)) (e := .var 2) (b := NB) (ρ := NS (.scr ns) spot (ns.getD spot 0) [] (ns.getD spot 0) .none .none) (i := 6) (n := 9) (by decide) rfl
  show Ev.finish f32 (evSs (callF pr (k + 1)) (.cons (.asg (.one 3) (.call 31 (.cons false (.var 0) (.cons false (.var 1) .nil)))) (.cons (.asg (.one 4) (.lst .nil)) (.cons (.asg (.one 5) (.var 3)) (.cons (.forS (.one 6) .rng1 (.cons false (.var 2) .nil) NB) (.cons (.ret (.var 4)) .nil))))) [.val (.scr ns), .val (.int spot), .val (.int 9), .none, .none, .none, .none, .none, .none, .none, .none]) = _
  rw [ss_nx t0, ss_nx (ρ' := [.val (.scr ns), .val (.int spot), .val (.int 9), .val (.int (ns.getD spot 0)), .own (.lst []), .none, .none, .none, .none, .none, .none]) (by rfl), ss_nx (ρ' := NS (.scr ns) spot (ns.getD spot 0) [] (ns.getD spot 0) .none .none) (by rfl), ss_nx (ρ' := NS (.scr ns) spot (ns.getD spot 0) out r s6 s7) (by rw [ef]; exact congrArg (unlockO none) e), one_st]
  rfl
end K12
end

section
set_option linter.all false
set_option maxRecDepth 100000
set_option maxHeartbeats 1000000
/-! K12n: law_ask. -/
namespace K12
open Ev
abbrev LEAF : Ss := (.cons (.asg (.one 5) (.tup (.cons false (.idx (.lst (.cons false (.cst (.str [97, 100, 97])) (.cons false (.cst (.str [98, 101, 110])) (.cons false (.cst (.str [99, 97, 121])) .nil)))) (.bin .mod (.blt .int1 (.cons false (.bin .fdiv (.var 3) (.cst (.int 14))) .nil)) (.cst (.int 3)))) (.cons false (.bin .add (.cst (.int 1)) (.bin .mod (.blt .int1 (.cons false (.bin .fdiv (.var 3) (.cst (.int 42))) .nil)) (.cst (.int 4)))) .nil)))) (.cons (.asg (.one 6) (.lst (.cons false (.tup (.cons false (.cst (.str [97, 108, 108])) .nil)) (.cons false (.tup (.cons false (.cst (.str [110, 111, 110, 101])) .nil)) (.cons false (.tup (.cons false (.cst (.str [116, 111, 112, 115])) .nil)) (.cons false (.tup (.cons false (.cst (.str [98, 121])) (.cons false (.idx (.var 5) (.cst (.int 0))) .nil))) (.cons false (.tup (.cons false (.cst (.str [105, 100])) (.cons false (.var 5) .nil))) (.cons false (.tup (.cons false (.cst (.str [117, 110, 100, 101, 114])) (.cons false (.var 5) .nil))) (.cons false (.tup (.cons false (.cst (.str [111, 118, 101, 114])) (.cons false (.var 5) .nil))) (.cons false (.tup (.cons false (.cst (.str [102, 105, 108, 101])) (.cons false (.idx (.lst (.cons false (.cst (.str [97])) (.cons false (.cst (.str [98])) (.cons false (.cst (.str [97, 47, 98])) .nil)))) (.bin .mod (.blt .int1 (.cons false (.bin .fdiv (.var 3) (.cst (.int 14))) .nil)) (.cst (.int 3)))) .nil))) (.cons false (.tup (.cons false (.cst (.str [116, 101, 120, 116])) (.cons false (.idx (.lst (.cons false (.cst (.str [120])) (.cons false (.cst (.str [105, 116, 39, 115])) (.cons false (.cst (.str [119, 32, 120])) (.cons false (.cst (.str [97, 92, 98])) .nil))))) (.bin .mod (.blt .int1 (.cons false (.bin .fdiv (.var 3) (.cst (.int 14))) .nil)) (.cst (.int 4)))) .nil))) (.cons false (.tup (.cons false (.cst (.str [116, 97, 103])) (.cons false (.idx (.lst (.cons false (.cst (.str [118])) (.cons false (.cst (.str [119])) .nil))) (.bin .mod (.blt .int1 (.cons false (.bin .fdiv (.var 3) (.cst (.int 14))) .nil)) (.cst (.int 2)))) .nil))) .nil)))))))))))) (.cons (.ret (.idx (.var 6) (.bin .mod (.blt .int1 (.cons false (.bin .fdiv (.var 3) (.cst (.int 3))) .nil)) (.blt .len (.cons false (.var 6) .nil))))) .nil)))
def nmS : List W := [[97, 100, 97], [98, 101, 110], [99, 97, 121]]
def flS : List W := [[97], [98], [97, 47, 98]]
def txS : List W := [[120], [105, 116, 39, 115], [119, 32, 120], [97, 92, 98]]
def tgS : List W := [[118], [119]]
abbrev AS (nums : D) (spot deep : Int) (n : Nat) (way : Int) (s5 s6 : Slot) : List Slot := [.val nums, .val (.int spot), .val (.int deep), .val (.int n), .val (.int way), s5, s6, .none, .none, .none, .none]
def idD (n : Nat) : D := .tup [.str (nmS.getD (n / 14 % 3) []), .int (1 + (n / 42 % 4 : Nat))]
def leafRow (n : Nat) : List D := [.tup [.str [97, 108, 108]], .tup [.str [110, 111, 110, 101]], .tup [.str [116, 111, 112, 115]], .tup [.str [98, 121], .str (nmS.getD (n / 14 % 3) [])], .tup [.str [105, 100], idD n], .tup [.str [117, 110, 100, 101, 114], idD n], .tup [.str [111, 118, 101, 114], idD n],
  .tup [.str [102, 105, 108, 101], .str (flS.getD (n / 14 % 3) [])], .tup [.str [116, 101, 120, 116], .str (txS.getD (n / 14 % 4) [])], .tup [.str [116, 97, 103], .str (tgS.getD (n / 14 % 2) [])]]
theorem e_mod {cl : Cl} {ρ : List Slot} {n : Nat} (h : getV ρ 3 = .ok (.v, .int n)) (a b : Nat) (ha : 0 < a ∧ a < 1073741824) (hb : 0 < b) : evE cl (.bin .mod (.blt .int1 (.cons false (.bin .fdiv (.var 3) (.cst (.int a))) .nil)) (.cst (.int b))) ρ = .ok (.v, .int (n / a % b : Nat)) := by
  have h1 : (0 : Int) < a := by omega
  have h2 : (a : Int) < 1073741824 := by omega
  have h3 : (0 : Int) < b := by omega
  simp [h, binD, bltD, starL, h2, ha.1, hb]

theorem idx_c {cl : Cl} {ρ : List Slot} (L : List W) (es : Es) (e : E) (r : Nat) (hr : r < L.length) (h : evE cl (.lst es) ρ = .ok (.f, .lst (L.map .str))) (he : evE cl e ρ = .ok (.v, .int r)) : evE cl (.idx (.lst es) e) ρ = .ok (.v, .str (L.getD r [])) := by
  have hg : L[r]? = some (L.getD r []) := by
    rw [List.getD_eq_getElem?_getD, List.getElem?_eq_getElem hr]; rfl
  rw [e_idx, h, b_ok, he, b_ok, idx_row hg]
  rfl
end K12
end

section
set_option linter.all false
set_option maxRecDepth 100000
set_option maxHeartbeats 1000000
/-! K12o: all that is asked of single leaves, looked up. -/
namespace K12
open Ev
mutual
def beqD : D → D → Bool
  | .non, .non => true
  | .bl a, .bl b => a == b
  | .int i, .int j => i == j
  | .str x, .str y => x == y
  | .tup xs, .tup ys => beqDs xs ys
  | .lst xs, .lst ys => beqDs xs ys
  | _, _ => false
def beqDs : List D → List D → Bool
  | [], [] => true
  | x :: xs, y :: ys => beqD x y && beqDs xs ys
  | _, _ => false
end
mutual
theorem beqD_eq : ∀ a b : D, beqD a b = true → a = b
  | .non, b, h => by cases b <;> first | rfl | (simp [beqD] at h)
  | .bl a, b, h => by cases b <;> first | (simp [beqD] at h; rw [h]) | (simp [beqD] at h)
  | .int i, b, h => by cases b <;> first | (simp [beqD] at h; rw [h]) | (simp [beqD] at h)
  | .str x, b, h => by cases b <;> first | (simp [beqD] at h; rw [h]) | (simp [beqD] at h)
  | .tup xs, b, h => by
    cases b <;> first | (simp only [beqD] at h; rw [beqDs_eq _ _ h]) | (simp [beqD] at h)
  | .lst xs, b, h => by
    cases b <;> first | (simp only [beqD] at h; rw [beqDs_eq _ _ h]) | (simp [beqD] at h)
  | .scr ns, b, h => by cases b <;> simp [beqD] at h
theorem beqDs_eq : ∀ a b : List D, beqDs a b = true → a = b
  | [], b, h => by cases b <;> first | rfl | (simp [beqDs] at h)
  | x :: xs, b, h => by
    cases b with
    | nil => simp [beqDs] at h
    | cons y ys =>
      simp only [beqDs, Bool.and_eq_true] at h
      rw [beqD_eq _ _ h.1, beqDs_eq _ _ h.2]
end
def wx : W := [39, 119, 32, 120, 39]
def VX : List W := wx :: VV
def okB : W → Bool
  | [] => false
  | c :: r => c != 32 && wEnd c r == some (r.length + 1) && printable (c :: r) && decide (r.length ≤ 10)
theorem okB_all : VX.all okB = true := by decide +kernel
theorem rlB_allX : VX.all rlB = true := by decide +kernel
def tabB (w v : W) : Bool := match rl w v with
  | none => true
  | some d => (match d with | .tup [.str w', _] => w' == w | _ => false) &&
      ([0, 1, 2, 3].all fun t => match callF pr 30 35 [d, .int t] with | .ok (.v, .str s, []) => s == w ++ 32 :: v | _ => false) &&
      (match callF pr 30 24 [d] with | .ok (.v, .str s, []) => s == w ++ 32 :: v | _ => false) &&
      (match callF pr 30 19 [d] with | .ok (.v, d', []) => beqD d' d | _ => false) &&
      (match callF pr 30 33 [d, d] with | .ok (.v, .bl b, []) => b | _ => false) && lf d && decide (dep d ≤ 3) && !(40 ∈ v) && !(41 ∈ v) && (v == wx || !(32 ∈ v))
theorem tab_all : (LK.all fun w => VX.all fun v => tabB w v) = true := by decide +kernel
structure Tab (w v : W) (d : D) : Prop where
  sh : ∃ x, d = .tup [.str w, x]
  wr : ∀ t : Nat, t ≤ 3 → ∀ k, 30 ≤ k → callF pr k 35 [d, .int t] = .ok (.v, .str (w ++ 32 :: v), [])
  tx : ∀ k, 30 ≤ k → callF pr k 24 [d] = .ok (.v, .str (w ++ 32 :: v), [])
  lfv : ∀ k, 30 ≤ k → callF pr k 19 [d] = .ok (.v, d, [])
  sm : ∀ k, 30 ≤ k → callF pr k 33 [d, d] = .ok (.v, .bl true, [])
  fl : lf d = true
  dp : dep d ≤ 3
  n40 : 40 ∉ v
  n41 : 41 ∉ v
  n32 : v = wx ∨ 32 ∉ v
theorem tab {w v : W} {d : D} (hw : w ∈ LK) (hv : v ∈ VX) (hr : rl w v = some d) : Tab w v d := by
  have h := List.all_eq_true.mp (List.all_eq_true.mp tab_all w hw) v hv
  unfold tabB at h
  rw [hr] at h
  simp only [Bool.and_eq_true, Bool.not_eq_true', decide_eq_false_iff_not, Bool.or_eq_true, decide_eq_true_eq] at h
  obtain ⟨⟨⟨⟨⟨⟨⟨⟨⟨h1, h2⟩, h3⟩, h4⟩, h5⟩, h6⟩, h7⟩, h8⟩, h9⟩, h10⟩ := h
  refine ⟨?_, ?_, ?_, ?_, ?_, h6, h7, h8, h9, ?_⟩
  · split at h1
    · rename_i w' x
      exact ⟨x, by rw [eq_of_beq h1]⟩
    · cases h1
  · intro t ht k hk
    have : ((t : Int) ∈ ([0, 1, 2, 3] : List Int)) := by
      simp only [List.mem_cons, List.not_mem_nil, or_false]
      omega
    have h2 := List.all_eq_true.mp h2 t this
    split at h2
    · rename_i s e
      rw [lift e hk, eq_of_beq h2]
    · cases h2
  · intro k hk
    split at h3
    · rename_i s e
      rw [lift e hk, eq_of_beq h3]
    · cases h3
  · intro k hk
    split at h4
    · rename_i s e
      rw [lift e hk, beqD_eq _ _ h4]
    · cases h4
  · intro k hk
    split at h5
    · rename_i s e
      rw [lift e hk, h5]
    · cases h5
  · rcases h10 with h | h
    · exact .inl (eq_of_beq h)
    · exact .inr h
def barB (w : W) : Bool :=
      ([0, 1, 2, 3].all fun t => match callF pr 30 35 [.tup [.str w], .int t] with | .ok (.v, .str s, []) => s == w | _ => false) &&
      (match callF pr 30 24 [.tup [.str w]] with | .ok (.v, .str s, []) => s == w | _ => false) &&
      (match callF pr 30 19 [.tup [.str w]] with | .ok (.v, d', []) => beqD d' (.tup [.str w]) | _ => false) &&
      (match callF pr 30 33 [.tup [.str w], .tup [.str w]] with | .ok (.v, .bl b, []) => b | _ => false)
theorem bar_all : BA.all barB = true := by decide +kernel
structure Bar (w : W) : Prop where
  wr : ∀ t : Nat, t ≤ 3 → ∀ k, 30 ≤ k → callF pr k 35 [.tup [.str w], .int t] = .ok (.v, .str w, [])
  tx : ∀ k, 30 ≤ k → callF pr k 24 [.tup [.str w]] = .ok (.v, .str w, [])
  lfv : ∀ k, 30 ≤ k → callF pr k 19 [.tup [.str w]] = .ok (.v, .tup [.str w], [])
  sm : ∀ k, 30 ≤ k → callF pr k 33 [.tup [.str w], .tup [.str w]] = .ok (.v, .bl true, [])
theorem bar {w : W} (hw : w ∈ BA) : Bar w := by
  have h := List.all_eq_true.mp bar_all w hw
  unfold barB at h
  simp only [Bool.and_eq_true] at h
  obtain ⟨⟨⟨h2, h3⟩, h4⟩, h5⟩ := h
  refine ⟨?_, ?_, ?_, ?_⟩
  · intro t ht k hk
    have : ((t : Int) ∈ ([0, 1, 2, 3] : List Int)) := by
      simp only [List.mem_cons, List.not_mem_nil, or_false]
      omega
    have h2 := List.all_eq_true.mp h2 t this
    split at h2
    · rename_i s e
      rw [lift e hk, eq_of_beq h2]
    · cases h2
  · intro k hk
    split at h3
    · rename_i s e
      rw [lift e hk, eq_of_beq h3]
    · cases h3
  · intro k hk
    split at h4
    · rename_i s e
      rw [lift e hk, beqD_eq _ _ h4]
    · cases h4
  · intro k hk
    split at h5
    · rename_i s e
      rw [lift e hk, h5]
    · cases h5
end K12
end

section
set_option linter.all false
set_option maxRecDepth 100000
set_option maxHeartbeats 1000000
/-! K12n2: law_ask, a leaf. -/
namespace K12
open Ev
theorem leaf_run {cl : Cl} (nums : D) (spot deep : Int) (n : Nat) (way : Int) : ∃ ρ, evSs cl LEAF (AS nums spot deep n way .none .none) = .rt .v ((leafRow n).getD (n / 3 % 10) .non) ρ := by
  have h3 : getV (AS nums spot deep n way .none .none) 3 = .ok (.v, .int n) := rfl
  have m3 := e_mod (cl := cl) h3 14 3 (by decide) (by decide)
  have m4 : evE cl (.bin .mod (.blt .int1 (.cons false (.bin .fdiv (.var 3) (.cst (.int 42))) .nil)) (.cst (.int 4))) (AS nums spot deep n way .none .none) = .ok (.v, .int (n / 42 % 4 : Nat)) := e_mod (cl := cl) h3 42 4 (by decide) (by decide)
  have x1 : evE cl (.idx (.lst (.cons false (.cst (.str [97, 100, 97])) (.cons false (.cst (.str [98, 101, 110])) (.cons false (.cst (.str [99, 97, 121])) .nil)))) (.bin .mod (.blt .int1 (.cons false (.bin .fdiv (.var 3) (.cst (.int 14))) .nil)) (.cst (.int 3)))) (AS nums spot deep n way .none .none) = .ok (.v, .str (nmS.getD (n / 14 % 3) [])) := idx_c nmS _ _ (n / 14 % 3) (by have := Nat.mod_lt (n / 14) (show 0 < 3 by decide); simpa [nmS] using this) rfl m3
  have t5 : evS cl (.asg (.one 5) (.tup (.cons false (.idx (.lst (.cons false (.cst (.str [97, 100, 97])) (.cons false (.cst (.str [98, 101, 110])) (.cons false (.cst (.str [99, 97, 121])) .nil)))) (.bin .mod (.blt .int1 (.cons false (.bin .fdiv (.var 3) (.cst (.int 14))) .nil)) (.cst (.int 3)))) (.cons false (.bin .add (.cst (.int 1)) (.bin .mod (.blt .int1 (.cons false (.bin .fdiv (.var 3) (.cst (.int 42))) .nil)) (.cst (.int 4)))) .nil)))) (AS nums spot deep n way .none .none) = .nx (AS nums spot deep n way (.val (idD n)) .none) := by
    have a1 : evE cl (.bin .add (.cst (.int 1)) (.bin .mod (.blt .int1 (.cons false (.bin .fdiv (.var 3) (.cst (.int 42))) .nil)) (.cst (.int 4)))) (AS nums spot deep n way .none .none) = .ok (.v, .int (1 + (n / 42 % 4 : Nat))) := by
      rw [e_bin, m4]; rfl
    have z2 : (2 : Nat) ≤ szl := by decide
    rw [s_asg, e_tup, es_cons, x1, es_cons, a1]
    simp only [b_ok, st_f, es_nil, List.cons_append, List.nil_append, so_v, so_nil, List.length_cons, List.length_nil, o_ok, sk_v, bt_v, sg_1]
    rw [if_pos (show 0 + 1 + 1 ≤ szl from z2)]
    rfl
  have g3 : getV (AS nums spot deep n way (.val (idD n)) .none) 3 = .ok (.v, .int n) := rfl
  have f3 := e_mod (cl := cl) g3 14 3 (by decide) (by decide)
  have f4 := e_mod (cl := cl) g3 14 4 (by decide) (by decide)
  have f2 := e_mod (cl := cl) g3 14 2 (by decide) (by decide)
  have y1 : evE cl (.idx (.lst (.cons false (.cst (.str [97])) (.cons false (.cst (.str [98])) (.cons false (.cst (.str [97, 47, 98])) .nil)))) (.bin .mod (.blt .int1 (.cons false (.bin .fdiv (.var 3) (.cst (.int 14))) .nil)) (.cst (.int 3)))) (AS nums spot deep n way (.val (idD n)) .none) = .ok (.v, .str (flS.getD (n / 14 % 3) [])) := idx_c flS _ _ (n / 14 % 3) (by have := Nat.mod_lt (n / 14) (show 0 < 3 by decide); simpa [flS] using this) rfl f3
  have y2 : evE cl (.idx (.lst (.cons false (.cst (.str [120])) (.cons false (.cst (.str [105, 116, 39, 115])) (.cons false (.cst (.str [119, 32, 120])) (.cons false (.cst (.str [97, 92, 98])) .nil))))) (.bin .mod (.blt .int1 (.cons false (.bin .fdiv (.var 3) (.cst (.int 14))) .nil)) (.cst (.int 4)))) (AS nums spot deep n way (.val (idD n)) .none) = .ok (.v, .str (txS.getD (n / 14 % 4) [])) := idx_c txS _ _ (n / 14 % 4) (by have := Nat.mod_lt (n / 14) (show 0 < 4 by decide); simpa [txS] using this) rfl f4
  have y3 : evE cl (.idx (.lst (.cons false (.cst (.str [118])) (.cons false (.cst (.str [119])) .nil))) (.bin .mod (.blt .int1 (.cons false (.bin .fdiv (.var 3) (.cst (.int 14))) .nil)) (.cst (.int 2)))) (AS nums spot deep n way (.val (idD n)) .none) = .ok (.v, .str (tgS.getD (n / 14 % 2) [])) := idx_c tgS _ _ (n / 14 % 2) (by have := Nat.mod_lt (n / 14) (show 0 < 2 by decide); simpa [tgS] using this) rfl f2
  have y4 : evE cl (.idx (.var 5) (.cst (.int 0))) (AS nums spot deep n way (.val (idD n)) .none) = .ok (.v, .str (nmS.getD (n / 14 % 3) [])) := rfl
  have y5 : evE cl (.var 5) (AS nums spot deep n way (.val (idD n)) .none) = .ok (.v, idD n) := rfl
  have z1 : (0 + 1 : Nat) ≤ szl := by decide
  have z2 : (0 + 1 + 1 : Nat) ≤ szl := by decide
  have z10 : (0 + 1 + 1 + 1 + 1 + 1 + 1 + 1 + 1 + 1 + 1 : Nat) ≤ szl := by decide
  have tu1 : ∀ (w : W) (ρ : List Slot), evE cl (.tup (.cons false (.cst (.str w)) .nil)) ρ = .ok (.v, .tup [.str w]) := fun w ρ => by
    rw [e_tup]
    simp only [es_cons, es_nil, e_cst, b_ok, st_f, List.cons_append, List.nil_append, so_v, so_nil, List.length_cons, List.length_nil]
    rw [if_pos z1]
  have tu2 : ∀ (w : W) (e : E) (d : D) (ρ : List Slot), evE cl e ρ = .ok (.v, d) → evE cl (.tup (.cons false (.cst (.str w)) (.cons false e .nil))) ρ = .ok (.v, .tup [.str w, d]) := fun w e d ρ h => by
    rw [e_tup]
    simp only [es_cons, es_nil, e_cst, h, b_ok, st_f, List.cons_append, List.nil_append, so_v, so_nil, List.length_cons, List.length_nil]
    rw [if_pos z2]
  have t6 : ∀ es, LEAF = .cons (.asg (.one 5) (.tup (.cons false (.idx (.lst (.cons false (.cst (.str [97, 100, 97])) (.cons false (.cst (.str [98, 101, 110])) (.cons false (.cst (.str [99, 97, 121])) .nil)))) (.bin .mod (.blt .int1 (.cons false (.bin .fdiv (.var 3) (.cst (.int 14))) .nil)) (.cst (.int 3)))) (.cons false (.bin .add (.cst (.int 1)) (.bin .mod (.blt .int1 (.cons false (.bin .fdiv (.var 3) (.cst (.int 42))) .nil)) (.cst (.int 4)))) .nil)))) (.cons (.asg (.one 6) (.lst es)) (.cons (.ret (.idx (.var 6) (.bin .mod (.blt .int1 (.cons false (.bin .fdiv (.var 3) (.cst (.int 3))) .nil)) (.blt .len (.cons false (.var 6) .nil))))) .nil)) → evS cl (.asg (.one 6) (.lst es)) (AS nums spot deep n way (.val (idD n)) .none) = .nx (AS nums spot deep n way (.val (idD n)) (.own (.lst (leafRow n)))) := by
    intro es he
    injection he with _ he
    injection he with he _
    injection he with _ he
    injection he with he
    subst he
    rw [s_asg, e_lst]
    simp only [es_cons, es_nil, tu1, tu2 _ _ _ _ y1, tu2 _ _ _ _ y2, tu2 _ _ _ _ y3, tu2 _ _ _ _ y4, tu2 _ _ _ _ y5, b_ok, st_f, List.cons_append, List.nil_append, so_v, so_nil, List.length_cons, List.length_nil]
    rw [if_pos z10]
    rfl
  have l10 : (leafRow n).length = 10 := rfl
  have k3 : getV (AS nums spot deep n way (.val (idD n)) (.own (.lst (leafRow n)))) 3 = .ok (.v, .int n) := rfl
  have t7 : evS cl (.ret (.idx (.var 6) (.bin .mod (.blt .int1 (.cons false (.bin .fdiv (.var 3) (.cst (.int 3))) .nil)) (.blt .len (.cons false (.var 6) .nil))))) (AS nums spot deep n way (.val (idD n)) (.own (.lst (leafRow n)))) = .rt .v ((leafRow n).getD (n / 3 % 10) .non) (AS nums spot deep n way (.val (idD n)) (.own (.lst (leafRow n)))) := by
    have m : evE cl (.bin .mod (.blt .int1 (.cons false (.bin .fdiv (.var 3) (.cst (.int 3))) .nil)) (.cst (.int 10))) (AS nums spot deep n way (.val (idD n)) (.own (.lst (leafRow n)))) = .ok (.v, .int (n / 3 % 10 : Nat)) := e_mod (cl := cl) k3 3 10 (by decide) (by decide)
    have hb : evE cl (.blt .len (.cons false (.var 6) .nil)) (AS nums spot deep n way (.val (idD n)) (.own (.lst (leafRow n)))) = .ok (.v, .int 10) := rfl
    have m2 : evE cl (.bin .mod (.blt .int1 (.cons false (.bin .fdiv (.var 3) (.cst (.int 3))) .nil)) (.blt .len (.cons false (.var 6) .nil))) (AS nums spot deep n way (.val (idD n)) (.own (.lst (leafRow n)))) = .ok (.v, .int (n / 3 % 10 : Nat)) := by
      rw [e_bin] at m ⊢
      rw [hb]
      exact m
    have hr : n / 3 % 10 < 10 := Nat.mod_lt _ (by decide)
    have hg : (leafRow n)[n / 3 % 10]? = some ((leafRow n).getD (n / 3 % 10) .non) := by
      rw [List.getD_eq_getElem?_getD, List.getElem?_eq_getElem (by rw [l10]; exact hr)]; rfl
    rw [s_ret, e_idx, m2]
    show Out.of (okV (idxD (.lst (leafRow n)) (.int (n / 3 % 10 : Nat)))) _ = _
    have hi : ixD (leafRow n).length ((n / 3 % 10 : Nat) : Int) = some (n / 3 % 10) := by
      unfold ixD
      rw [if_pos (by omega), if_pos (by rw [l10]; omega)]
      exact congrArg some (Int.toNat_natCast _)
    rw [ix_lst, hi]
    simp only [hg]
    rfl
  refine ⟨AS nums spot deep n way (.val (idD n)) (.own (.lst (leafRow n))), ?_⟩
  rw [ss_nx t5, ss_nx (t6 _ rfl), one_st]
  exact t7
end K12
end

section
set_option linter.all false
set_option maxRecDepth 100000
set_option maxHeartbeats 1000000
/-! K12q: law_ask: the ask that is drawn. -/
namespace K12
open Ev
def wNot : W := [110, 111, 116]
def wNeeds : W := [110, 101, 101, 100, 115]
def idT (t g : Nat) : D := .tup [.str (nmS.getD (t % 3) []), .int (1 + (g : Nat))]
def leafT (t g j : Nat) : D := ([.tup [.str [97, 108, 108]], .tup [.str [110, 111, 110, 101]], .tup [.str [116, 111, 112, 115]], .tup [.str [98, 121], .str (nmS.getD (t % 3) [])], .tup [.str [105, 100], idT t g], .tup [.str [117, 110, 100, 101, 114], idT t g], .tup [.str [111, 118, 101, 114], idT t g],
  .tup [.str [102, 105, 108, 101], .str (flS.getD (t % 3) [])], .tup [.str [116, 101, 120, 116], .str (txS.getD (t % 4) [])], .tup [.str [116, 97, 103], .str (tgS.getD (t % 2) [])]] : List D).getD j .non
theorem leafRow_T (n : Nat) : (leafRow n).getD (n / 3 % 10) .non = leafT (n / 14 % 12) (n / 42 % 4) (n / 3 % 10) := by
  unfold leafRow leafT idD idT
  have e3 : n / 14 % 12 % 3 = n / 14 % 3 := by omega
  have e4 : n / 14 % 12 % 4 = n / 14 % 4 := by omega
  have e2 : n / 14 % 12 % 2 = n / 14 % 2 := by omega
  rw [e3, e4, e2]
def quS : List W := [[39, 120, 39], [39, 105, 116, 92, 39, 115, 39], wx, [39, 97, 92, 92, 98, 39]]
def idW (t g : Nat) : W := nmS.getD (t % 3) [] ++ [46, 49 + g]
def leafA (t g : Nat) : Nat → Ask
  | 0 => .one [97, 108, 108]
  | 1 => .one [110, 111, 110, 101]
  | 2 => .one [116, 111, 112, 115]
  | 3 => .two [98, 121] (nmS.getD (t % 3) [])
  | 4 => .two [105, 100] (idW t g)
  | 5 => .two [117, 110, 100, 101, 114] (idW t g)
  | 6 => .two [111, 118, 101, 114] (idW t g)
  | 7 => .two [102, 105, 108, 101] (flS.getD (t % 3) [])
  | 8 => .two [116, 101, 120, 116] (quS.getD (t % 4) [])
  | _ => .two [116, 97, 103] (tgS.getD (t % 2) [])
def leafB : Ask → Bool
  | .one w => decide (w ∈ BA)
  | .two w v => decide (w ∈ LK) && decide (v ∈ VX) && (rl w v).isSome
  | _ => false
theorem leaf_all : ((List.range 12).all fun t => (List.range 4).all fun g => (List.range 10).all fun j => leafB (leafA t g j) && beqD (leafA t g j).d (leafT t g j)) = true := by decide +kernel
theorem leaf_ok {t g j : Nat} (ht : t < 12) (hg : g < 4) (hj : j < 10) : ∃ a : Ask, a.d = leafT t g j ∧ a.wf (· ∈ VX) ∧ (toks a).length ≤ 2 := by
  have h := List.all_eq_true.mp (List.all_eq_true.mp (List.all_eq_true.mp leaf_all t (List.mem_range.mpr ht)) g (List.mem_range.mpr hg)) j (List.mem_range.mpr hj)
  rw [Bool.and_eq_true] at h
  refine ⟨leafA t g j, beqD_eq _ _ h.2, ?_⟩
  have h1 := h.1
  cases e : leafA t g j with
  | one w =>
    rw [e] at h1
    have h1 : w ∈ BA := of_decide_eq_true (p := w ∈ BA) h1
    exact ⟨h1, by simp [toks]⟩
  | two w v =>
    rw [e] at h1
    simp only [leafB, Bool.and_eq_true, decide_eq_true_eq] at h1
    exact ⟨⟨h1.1.1, h1.1.2, h1.2⟩, by simp [toks]⟩
  | una w a => rw [e] at h1; cases h1
  | bin w a b => rw [e] at h1; cases h1
def bnd : Nat → Nat
  | 0 => 2
  | d + 1 => 2 * bnd d + 5
theorem bnd_two : ∀ d, 2 ≤ bnd d
  | 0 => by decide
  | d + 1 => by simp only [bnd]; omega
theorem brk_len (c : Bool) (l : List W) : (brk c l).length ≤ l.length + 2 := by
  unfold brk; split <;> simp <;> omega
theorem len_una (w : W) (x : Ask) : (toks (.una w x)).length ≤ (toks x).length + 3 := by
  have := brk_len (isJo x) (toks x)
  simp only [toks, List.length_cons]; omega
theorem len_bin (w : W) (x y : Ask) : (toks (.bin w x y)).length ≤ (toks x).length + (toks y).length + 5 := by
  have h1 := brk_len (isOr x) (toks x)
  have h2 := brk_len (isJo y) (toks y)
  have h3 := brk_len (isOr y) (toks y)
  simp only [toks, List.length_append, List.length_cons]
  split <;> omega
abbrev R1 : E := (.call 34 (.cons false (.var 0) (.cons false (.bin .add (.bin .mul (.var 1) (.cst (.int 2))) (.cst (.int 1))) (.cons false (.bin .sub (.var 2) (.cst (.int 1))) .nil))))
abbrev R2 : E := (.call 34 (.cons false (.var 0) (.cons false (.bin .add (.bin .mul (.var 1) (.cst (.int 2))) (.cst (.int 2))) (.cons false (.bin .sub (.var 2) (.cst (.int 1))) .nil))))
abbrev DEEP : Ss := (.cons (.ifS (.cmp .isin (.var 4) (.tup (.cons false (.cst (.int 9)) (.cons false (.cst (.int 10)) .nil)))) (.cons (.ret (.tup (.cons false (.cst (.str [110, 111, 116])) (.cons false R1 .nil)))) .nil) .nil) (.cons (.ifS (.cmp .eq (.var 4) (.cst (.int 11))) (.cons (.ret (.tup (.cons false (.cst (.str [110, 101, 101, 100, 115])) (.cons false R1 .nil)))) .nil) .nil) (.cons (.ret (.tup (.cons false (.idx (.lst (.cons false (.cst (.str [97, 110, 100])) (.cons false (.cst (.str [111, 114])) .nil))) (.bin .sub (.var 4) (.cst (.int 12)))) (.cons false R1 (.cons false R2 .nil))))) .nil)))
theorem mul_two (i : Int) : binD .mul (.int i) (.int 2) = some (.v, .int (i * 2)) := by
  simp [binD]
theorem em0 {cl : Cl} {ρ : List Slot} {i : Int} (ev : evE cl (.var 1) ρ = .ok (.v, .int i)) : evE cl (.bin .mul (.var 1) (.cst (.int 2))) ρ = .ok (.v, .int (i * 2)) := by
  rw [e_bin, ev]
  show okK (binD .mul (.int i) (.int 2)) = _
  rw [mul_two]
  rfl
theorem em1 {cl : Cl} {ρ : List Slot} {i c : Int} {e : E} (ev : evE cl e ρ = .ok (.v, .int i)) : evE cl (.bin .add e (.cst (.int c))) ρ = .ok (.v, .int (i + c)) := by
  rw [e_bin, ev]
  rfl
theorem em2 {cl : Cl} {ρ : List Slot} {i c : Int} {e : E} (ev : evE cl e ρ = .ok (.v, .int i)) : evE cl (.bin .sub e (.cst (.int c))) ρ = .ok (.v, .int (i - c)) := by
  rw [e_bin, ev]
  rfl
theorem call3 {cl : Cl} {ρ : List Slot} {f : Nat} {e1 e2 e3 : E} {d1 d2 d3 d : D} (h1 : evE cl e1 ρ = .ok (.v, d1)) (h2 : evE cl e2 ρ = .ok (.v, d2)) (h3 : evE cl e3 ρ = .ok (.v, d3)) (h : cl f [d1, d2, d3] = .ok (.v, d, [])) : evE cl (.call f (.cons false e1 (.cons false e2 (.cons false e3 .nil)))) ρ = .ok (.v, d) := by
  rw [e_call, es_cons, h1, es_cons, h2, es_cons, h3, es_nil]
  show (cl f [d1, d2, d3]).bind (fun r => afterCall false r) = _
  rw [h]
  rfl
theorem r1_run {cl : Cl} {nums : D} {spot deep : Int} {n : Nat} {way : Int} {s5 s6 : Slot} {d : D} (h : cl 34 [nums, .int (spot * 2 + 1), .int (deep - 1)] = .ok (.v, d, [])) : evE cl R1 (AS nums spot deep n way s5 s6) = .ok (.v, d) :=
  call3 rfl (em1 (em0 rfl)) (em2 rfl) h
theorem r2_run {cl : Cl} {nums : D} {spot deep : Int} {n : Nat} {way : Int} {s5 s6 : Slot} {d : D} (h : cl 34 [nums, .int (spot * 2 + 2), .int (deep - 1)] = .ok (.v, d, [])) : evE cl R2 (AS nums spot deep n way s5 s6) = .ok (.v, d) :=
  call3 rfl (em1 (em0 rfl)) (em2 rfl) h
theorem tup2_run {cl : Cl} {ρ : List Slot} {e1 e2 : E} {d1 d2 : D} (h1 : evE cl e1 ρ = .ok (.v, d1)) (h2 : evE cl e2 ρ = .ok (.v, d2)) : evE cl (.tup (.cons false e1 (.cons false e2 .nil))) ρ = .ok (.v, .tup [d1, d2]) := by
  rw [e_tup]
  simp only [es_cons, es_nil, h1, h2, b_ok, st_f, List.cons_append, List.nil_append, so_v, so_nil, List.length_cons, List.length_nil]
  rw [if_pos (by decide)]
theorem tup3_run {cl : Cl} {ρ : List Slot} {e1 e2 e3 : E} {d1 d2 d3 : D} (h1 : evE cl e1 ρ = .ok (.v, d1)) (h2 : evE cl e2 ρ = .ok (.v, d2)) (h3 : evE cl e3 ρ = .ok (.v, d3)) : evE cl (.tup (.cons false e1 (.cons false e2 (.cons false e3 .nil)))) ρ = .ok (.v, .tup [d1, d2, d3]) := by
  rw [e_tup]
  simp only [es_cons, es_nil, h1, h2, h3, b_ok, st_f, List.cons_append, List.nil_append, so_v, so_nil, List.length_cons, List.length_nil]
  rw [if_pos (by decide)]
theorem ret_v {cl : Cl} {ρ : List Slot} {e : E} {d : D} (h : evE cl e ρ = .ok (.v, d)) : evS cl (.ret e) ρ = .rt .v d ρ := by
  rw [s_ret, h]; rfl
theorem ask_run {nums : List Int} (h9 : nums.length = 9) (hp : ∀ x ∈ nums, (0 : Int) ≤ x) : ∀ (deep spot k : Nat), ∃ a : Ask, callF pr (k + deep + 1) 34 [.lst (nums.map .int), .int spot, .int deep] = .ok (.v, a.d, []) ∧ a.wf (· ∈ VX) ∧ (toks a).length ≤ bnd deep := by
  have first : ∀ (cl : Cl) (spot deep : Nat), ∃ n : Nat, evS cl (.asg (.one 3) (.bin .add (.blt .int1 (.cons false (.idx (.var 0) (.bin .mod (.var 1) (.blt .len (.cons false (.var 0) .nil)))) .nil)) (.var 1))) [.val (.lst (nums.map .int)), .val (.int spot), .val (.int deep), .none, .none, .none, .none, .none, .none, .none, .none] = .nx [.val (.lst (nums.map .int)), .val (.int spot), .val (.int deep), .val (.int n), .none, .none, .none, .none, .none, .none, .none] := by
    intro cl spot deep
    have hr : spot % 9 < nums.length := by rw [h9]; exact Nat.mod_lt _ (by decide)
    have hx : 0 ≤ nums[spot % 9] := hp _ (List.getElem_mem hr)
    obtain ⟨m, hm⟩ := Int.eq_ofNat_of_zero_le hx
    refine ⟨m + spot, ?_⟩
    have hg : (nums.map D.int)[spot % 9]? = some (.int m) := by
      rw [List.getElem?_map, List.getElem?_eq_getElem hr, hm]; rfl
    have hi : ixD (nums.map D.int).length ((spot % 9 : Nat) : Int) = some (spot % 9) := by
      unfold ixD
      rw [if_pos (by omega), if_pos (by rw [List.length_map]; omega)]
      exact congrArg some (Int.toNat_natCast _)
    have e1 : evE cl (.bin .mod (.var 1) (.blt .len (.cons false (.var 0) .nil))) [.val (.lst (nums.map .int)), .val (.int spot), .val (.int deep), .none, .none, .none, .none, .none, .none, .none, .none] = .ok (.v, .int (spot % 9 : Nat)) := by
      have h1 : evE cl (.blt .len (.cons false (.var 0) .nil)) [.val (.lst (nums.map .int)), .val (.int spot), .val (.int deep), .none, .none, .none, .none, .none, .none, .none, .none] = .ok (.v, .int 9) := by
        show okV (some (.int ((nums.map D.int).length : Nat))) = _
        rw [List.length_map, h9]; rfl
      have h2 : evE cl (.var 1) [.val (.lst (nums.map .int)), .val (.int spot), .val (.int deep), .none, .none, .none, .none, .none, .none, .none, .none] = .ok (.v, .int spot) := rfl
      rw [e_bin, h2, h1]
      simp [binD]
    have e2 : evE cl (.idx (.var 0) (.bin .mod (.var 1) (.blt .len (.cons false (.var 0) .nil)))) [.val (.lst (nums.map .int)), .val (.int spot), .val (.int deep), .none, .none, .none, .none, .none, .none, .none, .none] = .ok (.v, .int m) := by
      rw [e_idx, e1]
      show okV (idxD (.lst (nums.map D.int)) (.int (spot % 9 : Nat))) = _
      rw [ix_lst, hi]
      simp only [hg]
      rfl
    have e3 : evE cl (.bin .add (.blt .int1 (.cons false (.idx (.var 0) (.bin .mod (.var 1) (.blt .len (.cons false (.var 0) .nil)))) .nil)) (.var 1)) [.val (.lst (nums.map .int)), .val (.int spot), .val (.int deep), .none, .none, .none, .none, .none, .none, .none, .none] = .ok (.v, .int (m + spot : Nat)) := by
      rw [e_bin, e_blt, es_cons, e2]
      rfl
    rw [s_asg, e3]
    rfl
  have second : ∀ (cl : Cl) (spot deep n : Nat), evS cl (.asg (.one 4) (.bin .mod (.var 3) (.cst (.int 14)))) [.val (.lst (nums.map .int)), .val (.int spot), .val (.int deep), .val (.int n), .none, .none, .none, .none, .none, .none, .none] = .nx (AS (.lst (nums.map .int)) spot deep n (n % 14 : Nat) .none .none) := by
    intro cl spot deep n
    have h2 : evE cl (.bin .mod (.var 3) (.cst (.int 14))) [.val (.lst (nums.map .int)), .val (.int spot), .val (.int deep), .val (.int n), .none, .none, .none, .none, .none, .none, .none] = .ok (.v, .int (n % 14 : Nat)) := by
      have h3 : evE cl (.var 3) [.val (.lst (nums.map .int)), .val (.int spot), .val (.int deep), .val (.int n), .none, .none, .none, .none, .none, .none, .none] = .ok (.v, .int n) := rfl
      rw [e_bin, h3]
      simp [binD]
    rw [s_asg, h2]
    rfl
  have cond : ∀ (cl : Cl) (spot deep n : Nat), truthR (evE cl (.and (.cmp .gt (.var 4) (.cst (.int 8))) (.cmp .gt (.var 2) (.cst (.int 0)))) (AS (.lst (nums.map .int)) spot deep n (n % 14 : Nat) .none .none)) = .ok (decide (8 < n % 14 ∧ 0 < deep)) := by
    intro cl spot deep n
    have h1 : evE cl (.cmp .gt (.var 4) (.cst (.int 8))) (AS (.lst (nums.map .int)) spot deep n (n % 14 : Nat) .none .none) = .ok (.v, .bl (decide ((8 : Int) < (n % 14 : Nat)))) := rfl
    have h2 : evE cl (.cmp .gt (.var 2) (.cst (.int 0))) (AS (.lst (nums.map .int)) spot deep n (n % 14 : Nat) .none .none) = .ok (.v, .bl (decide ((0 : Int) < deep))) := rfl
    rw [e_and, h1]
    simp only [b_ok, tr_bl]
    by_cases a : 8 < n % 14
    · have a' : (8 : Int) < (n % 14 : Nat) := by omega
      rw [decide_eq_true a']
      simp only [h2, t_ok, tr_bl]
      by_cases b : 0 < deep
      · have b' : (0 : Int) < deep := by omega
        rw [decide_eq_true b', decide_eq_true ⟨a, b⟩]
      · have b' : ¬ (0 : Int) < deep := by omega
        rw [decide_eq_false b', decide_eq_false (fun z => b z.2)]
    · have a' : ¬ (8 : Int) < (n % 14 : Nat) := by omega
      rw [decide_eq_false a', decide_eq_false (fun z => a z.1)]
      rfl
  have leaf : ∀ (spot deep k n : Nat), ¬ (8 < n % 14 ∧ 0 < deep) → ∃ a : Ask, Ev.finish f34 (evSs (callF pr k) (.cons (.ifS (.and (.cmp .gt (.var 4) (.cst (.int 8))) (.cmp .gt (.var 2) (.cst (.int 0)))) DEEP .nil) LEAF) (AS (.lst (nums.map .int)) spot deep n (n % 14 : Nat) .none .none)) = .ok (.v, a.d, []) ∧ a.wf (· ∈ VX) ∧ (toks a).length ≤ 2 := by
    intro spot deep k n h
    obtain ⟨a, e, hw, hl⟩ := leaf_ok (t := n / 14 % 12) (g := n / 42 % 4) (j := n / 3 % 10) (Nat.mod_lt _ (by decide)) (Nat.mod_lt _ (by decide)) (Nat.mod_lt _ (by decide))
    refine ⟨a, ?_, hw, hl⟩
    have c := cond (callF pr k) spot deep n
    rw [decide_eq_false h] at c
    obtain ⟨ρ, el⟩ := leaf_run (cl := callF pr k) (.lst (nums.map .int)) spot deep n (n % 14 : Nat)
    rw [ss_nx (ρ' := AS (.lst (nums.map .int)) spot deep n (n % 14 : Nat) .none .none) (by rw [if_f c]; rfl), el, leafRow_T, ← e]
    rfl
  intro deep
  induction deep with
  | zero =>
    intro spot k
    rw [cf (fn := f34) rfl rfl]
    obtain ⟨n, e⟩ := first (callF pr (k + 0)) spot 0
    obtain ⟨a, h, hw, hl⟩ := leaf spot 0 (k + 0) n (fun z => absurd z.2 (by decide))
    refine ⟨a, ?_, hw, hl⟩
    show Ev.finish f34 (evSs (callF pr (k + 0)) (.cons _ (.cons _ (.cons (.ifS (.and (.cmp .gt (.var 4) (.cst (.int 8))) (.cmp .gt (.var 2) (.cst (.int 0)))) DEEP .nil) LEAF))) [.val (.lst (nums.map .int)), .val (.int spot), .val (.int (0 : Nat)), .none, .none, .none, .none, .none, .none, .none, .none]) = _
    rw [ss_nx e, ss_nx (second _ spot 0 n)]
    exact h
  | succ deep ih =>
    intro spot k
    have ek : k + (deep + 1) + 1 = (k + deep + 1) + 1 := by omega
    rw [ek, cf (fn := f34) rfl rfl]
    obtain ⟨n, e⟩ := first (callF pr (k + deep + 1)) spot (deep + 1)
    have b2 := bnd_two deep
    suffices h : ∃ a : Ask, Ev.finish f34 (evSs (callF pr (k + deep + 1)) (.cons (.ifS (.and (.cmp .gt (.var 4) (.cst (.int 8))) (.cmp .gt (.var 2) (.cst (.int 0)))) DEEP .nil) LEAF) (AS (.lst (nums.map .int)) spot (deep + 1 : Nat) n (n % 14 : Nat) .none .none)) = .ok (.v, a.d, []) ∧ a.wf (· ∈ VX) ∧ (toks a).length ≤ bnd (deep + 1) by
      obtain ⟨a, h, hw, hl⟩ := h
      refine ⟨a, ?_, hw, hl⟩
      show Ev.finish f34 (evSs (callF pr (k + deep + 1)) (.cons _ (.cons _ (.cons (.ifS (.and (.cmp .gt (.var 4) (.cst (.int 8))) (.cmp .gt (.var 2) (.cst (.int 0)))) DEEP .nil) LEAF))) [.val (.lst (nums.map .int)), .val (.int spot), .val (.int (deep + 1 : Nat)), .none, .none, .none, .none, .none, .none, .none, .none]) = _
      rw [ss_nx e, ss_nx (second _ spot (deep + 1) n)]
      exact h
    by_cases h : 8 < n % 14 ∧ 0 < deep + 1
    · obtain ⟨a1, c1, w1, l1⟩ := ih (spot * 2 + 1) k
      obtain ⟨a2, c2, w2, l2⟩ := ih (spot * 2 + 2) k
      have x0 : ((deep + 1 : Nat) : Int) - 1 = (deep : Int) := by omega
      have x1 : ((spot * 2 + 1 : Nat) : Int) = (spot : Int) * 2 + 1 := by omega
      have x2 : ((spot * 2 + 2 : Nat) : Int) = (spot : Int) * 2 + 2 := by omega
      rw [x1, ← x0] at c1
      rw [x2, ← x0] at c2
      have q1 := r1_run (n := n) (way := (n % 14 : Nat)) (s5 := .none) (s6 := .none) c1
      have q2 := r2_run (n := n) (way := (n % 14 : Nat)) (s5 := .none) (s6 := .none) c2
      have c := cond (callF pr (k + deep + 1)) spot (deep + 1) n
      rw [decide_eq_true h] at c
      have hcase : n % 14 = 9 ∨ n % 14 = 10 ∨ n % 14 = 11 ∨ n % 14 = 12 ∨ n % 14 = 13 := by omega
      have lu := len_una
      have lb := len_bin
      rcases hcase with z | z | z | z | z
      · refine ⟨.una wNot a1, ?_, ⟨by decide, w1⟩, by have := lu wNot a1; simp only [bnd]; omega⟩
        have t : evSs (callF pr (k + deep + 1)) DEEP (AS (.lst (nums.map .int)) spot (deep + 1 : Nat) n (n % 14 : Nat) .none .none) = .rt .v (.tup [.str wNot, a1.d]) (AS (.lst (nums.map .int)) spot (deep + 1 : Nat) n (n % 14 : Nat) .none .none) := by
          rw [z] at q1 ⊢
          rw [ss_rt]
          rw [if_t (by rfl), one_st]
          exact ret_v (tup2_run rfl q1)
        rw [ss_rt (by rw [if_t c]; exact t)]
        rfl
      · refine ⟨.una wNot a1, ?_, ⟨by decide, w1⟩, by have := lu wNot a1; simp only [bnd]; omega⟩
        have t : evSs (callF pr (k + deep + 1)) DEEP (AS (.lst (nums.map .int)) spot (deep + 1 : Nat) n (n % 14 : Nat) .none .none) = .rt .v (.tup [.str wNot, a1.d]) (AS (.lst (nums.map .int)) spot (deep + 1 : Nat) n (n % 14 : Nat) .none .none) := by
          rw [z] at q1 ⊢
          rw [ss_rt]
          rw [if_t (by rfl), one_st]
          exact ret_v (tup2_run rfl q1)
        rw [ss_rt (by rw [if_t c]; exact t)]
        rfl
      · refine ⟨.una wNeeds a1, ?_, ⟨by decide, w1⟩, by have := lu wNeeds a1; simp only [bnd]; omega⟩
        have t : evSs (callF pr (k + deep + 1)) DEEP (AS (.lst (nums.map .int)) spot (deep + 1 : Nat) n (n % 14 : Nat) .none .none) = .rt .v (.tup [.str wNeeds, a1.d]) (AS (.lst (nums.map .int)) spot (deep + 1 : Nat) n (n % 14 : Nat) .none .none) := by
          rw [z] at q1 ⊢
          rw [ss_nx (ρ' := AS (.lst (nums.map .int)) spot (deep + 1 : Nat) n (11 : Nat) .none .none) (by rw [if_f (by rfl)]; rfl), ss_rt]
          rw [if_t (by rfl), one_st]
          exact ret_v (tup2_run rfl q1)
        rw [ss_rt (by rw [if_t c]; exact t)]
        rfl
      · refine ⟨.bin wAnd a1 a2, ?_, ⟨by decide, w1, w2⟩, by have := lb wAnd a1 a2; simp only [bnd]; omega⟩
        have t : evSs (callF pr (k + deep + 1)) DEEP (AS (.lst (nums.map .int)) spot (deep + 1 : Nat) n (n % 14 : Nat) .none .none) = .rt .v (.tup [.str wAnd, a1.d, a2.d]) (AS (.lst (nums.map .int)) spot (deep + 1 : Nat) n (n % 14 : Nat) .none .none) := by
          rw [z] at q1 q2 ⊢
          rw [ss_nx (ρ' := AS (.lst (nums.map .int)) spot (deep + 1 : Nat) n (12 : Nat) .none .none) (by rw [if_f (by rfl)]; rfl), ss_nx (ρ' := AS (.lst (nums.map .int)) spot (deep + 1 : Nat) n (12 : Nat) .none .none) (by rw [if_f (by rfl)]; rfl), one_st]
          exact ret_v (tup3_run rfl q1 q2)
        rw [ss_rt (by rw [if_t c]; exact t)]
        rfl
      · refine ⟨.bin wOr a1 a2, ?_, ⟨by decide, w1, w2⟩, by have := lb wOr a1 a2; simp only [bnd]; omega⟩
        have t : evSs (callF pr (k + deep + 1)) DEEP (AS (.lst (nums.map .int)) spot (deep + 1 : Nat) n (n % 14 : Nat) .none .none) = .rt .v (.tup [.str wOr, a1.d, a2.d]) (AS (.lst (nums.map .int)) spot (deep + 1 : Nat) n (n % 14 : Nat) .none .none) := by
          rw [z] at q1 q2 ⊢
          rw [ss_nx (ρ' := AS (.lst (nums.map .int)) spot (deep + 1 : Nat) n (13 : Nat) .none .none) (by rw [if_f (by rfl)]; rfl), ss_nx (ρ' := AS (.lst (nums.map .int)) spot (deep + 1 : Nat) n (13 : Nat) .none .none) (by rw [if_f (by rfl)]; rfl), one_st]
          exact ret_v (tup3_run rfl q1 q2)
        rw [ss_rt (by rw [if_t c]; exact t)]
        rfl
    · obtain ⟨a, h, hw, hl⟩ := leaf spot (deep + 1) (k + deep + 1) n h
      exact ⟨a, h, hw, by simp only [bnd]; omega⟩
end K12
end

section
set_option linter.all false
set_option maxRecDepth 100000
set_option maxHeartbeats 1000000
/-! K12r: the texts of asks, as words with blanks. -/
namespace K12
open Ev
def lbk (c b : Bool) (f : Bool → Lay) : Lay := if c then (b, [40]) :: (f false ++ [(false, [41])]) else f b
def layA : Ask → Bool → Lay
  | .one w, b => [(b, w)]
  | .two w v, b => [(b, w), (true, v)]
  | .una w x, b => (b, w) :: lbk (isJo x) true (layA x)
  | .bin w x y, b => (if w = wAnd then lbk (isOr x) b (layA x) else layA x b) ++ (true, w) :: (if w = wAnd then lbk (isJo y) true (layA y) else lbk (isOr y) true (layA y))
theorem lbk_snd (c b : Bool) (f : Bool → Lay) (l : List W) (h : ∀ b, (f b).map (·.2) = l) : (lbk c b f).map (·.2) = brk c l := by
  unfold lbk brk
  split
  · simp [h]
  · exact h b
theorem lay_snd : ∀ (a : Ask) (b : Bool), (layA a b).map (·.2) = toks a
  | .one w, b => rfl
  | .two w v, b => rfl
  | .una w x, b => by
    simp only [layA, toks, List.map_cons]
    rw [lbk_snd _ _ _ _ (lay_snd x)]
  | .bin w x y, b => by
    simp only [layA, toks, List.map_append, List.map_cons]
    split
    · rw [lbk_snd _ _ _ _ (lay_snd x), lbk_snd _ _ _ _ (lay_snd y)]
    · rw [lay_snd x, lbk_snd _ _ _ _ (lay_snd y)]
theorem txt_app : ∀ (A B : Lay), txt (A ++ B) = txt A ++ txt B
  | [], B => rfl
  | (true, w) :: A, B => by simp [txt, txt_app A B]
  | (false, w) :: A, B => by simp [txt, txt_app A B]
def bk (c : Bool) (t : List Nat) : List Nat := if c then 40 :: (t ++ [41]) else t
def tx (a : Ask) : List Nat := txt (layA a false)
theorem txt_lbk (c b : Bool) (f : Bool → Lay) (t : List Nat) (h : ∀ b, txt (f b) = (if b then [32] else []) ++ t) : txt (lbk c b f) = (if b then [32] else []) ++ bk c t := by
  unfold lbk bk
  cases c
  · simp [h]
  · cases b <;> simp [txt, txt_app, h]
theorem txt_b : ∀ (a : Ask) (b : Bool), txt (layA a b) = (if b then [32] else []) ++ tx a
  | .one w, b => by cases b <;> rfl
  | .two w v, b => by cases b <;> rfl
  | .una w x, b => by cases b <;> rfl
  | .bin w x y, b => by
    unfold tx
    simp only [layA]
    rw [txt_app, txt_app]
    split
    · rw [txt_lbk _ b _ _ (txt_b x), txt_lbk _ false _ _ (txt_b x)]
      simp
    · rw [txt_b x b, txt_b x false]
      simp
theorem tx_one (w : W) : tx (.one w) = w := by simp [tx, layA, txt]
theorem tx_two (w v : W) : tx (.two w v) = w ++ 32 :: v := by simp [tx, layA, txt]
theorem tx_una (w : W) (x : Ask) : tx (.una w x) = w ++ 32 :: bk (isJo x) (tx x) := by
  simp only [tx, layA, txt]
  rw [txt_lbk _ _ _ _ (txt_b x)]
  simp [tx]
theorem tx_and (x y : Ask) : tx (.bin wAnd x y) = bk (isOr x) (tx x) ++ 32 :: (wAnd ++ 32 :: bk (isJo y) (tx y)) := by
  unfold tx
  simp only [layA, if_true]
  rw [txt_app, txt_lbk _ _ _ _ (txt_b x)]
  simp only [txt]
  rw [txt_lbk _ _ _ _ (txt_b y)]
  simp [tx]
theorem tx_or (x y : Ask) : tx (.bin wOr x y) = tx x ++ 32 :: (wOr ++ 32 :: bk (isOr y) (tx y)) := by
  have h : ¬ wOr = wAnd := by decide
  unfold tx
  simp only [layA, h, if_false]
  rw [txt_app, txt_b x]
  simp only [txt]
  rw [txt_lbk _ _ _ _ (txt_b y)]
  simp [tx]
/-! ### where words end -/
theorem qEnd_app : ∀ (n : Nat) (r : List Nat) (j : Nat) (s : List Nat), r.length ≤ n → qEnd r = some j → qEnd (r ++ s) = some j := by
  intro n
  induction n with
  | zero =>
    intro r j s hl h
    cases r with
    | nil => cases h
    | cons c r => simp at hl
  | succ n ih =>
    intro r j s hl h
    cases r with
    | nil => cases h
    | cons c r =>
      rw [List.cons_append, qEnd_cons]
      rw [qEnd_cons] at h
      simp only [List.length_cons] at hl
      split
      · rename_i hc; rw [if_pos hc] at h; exact h
      · rename_i hc
        rw [if_neg hc] at h
        split
        · rename_i hc2
          rw [if_pos hc2] at h
          cases r with
          | nil => cases h
          | cons d r =>
            simp only [List.length_cons] at hl
            simp only [List.cons_append]
            dsimp only at h
            cases e : qEnd r with
            | none => rw [e] at h; cases h
            | some i => rw [e] at h; rw [ih r i s (by omega) e]; exact h
        · rename_i hc2
          rw [if_neg hc2] at h
          cases e : qEnd r with
          | none => rw [e] at h; cases h
          | some i => rw [e] at h; rw [ih r i s (by omega) e]; exact h
theorem pLen_app : ∀ (r s : List Nat), pLen r = r.length → (s = [] ∨ ∃ t, s = 32 :: t ∨ s = 41 :: t) → pLen (r ++ s) = r.length
  | [], s, _, hs => by
    rcases hs with rfl | ⟨t, rfl | rfl⟩
    · rfl
    · simp [pLen]
    · simp [pLen]
  | c :: r, s, h, hs => by
    rw [List.cons_append]
    simp only [pLen] at h ⊢
    split
    · rename_i hc; rw [if_pos hc] at h; simp at h
    · rename_i hc
      rw [if_neg hc] at h
      simp only [List.length_cons] at h ⊢
      rw [pLen_app r s (by omega) hs]
theorem wEnd_app {c : Nat} {r s : List Nat} (h : wEnd c r = some (r.length + 1)) (hs : s = [] ∨ ∃ t, s = 32 :: t ∨ s = 41 :: t) : wEnd c (r ++ s) = some (r.length + 1) := by
  unfold wEnd at h ⊢
  split
  · rename_i hc
    rw [if_pos hc] at h
    cases e : qEnd r with
    | none => rw [e] at h; cases h
    | some i => rw [e] at h; rw [qEnd_app _ r i s (Nat.le_refl _) e]; exact h
  · rename_i hc
    rw [if_neg hc] at h
    split
    · rename_i hc2; rw [if_pos hc2] at h; exact h
    · rename_i hc2
      rw [if_neg hc2] at h
      have h : pLen r + 1 = r.length + 1 := by simpa using h
      rw [pLen_app r s (by omega) hs]
/-! ### right layouts -/
def free : Lay → Prop
  | [] => True
  | (b, w) :: _ => b = true ∨ w = [41]
theorem free_stop {L : Lay} (h : free L) : txt L = [] ∨ ∃ t, txt L = 32 :: t ∨ txt L = 41 :: t := by
  cases L with
  | nil => exact .inl rfl
  | cons x L =>
    obtain ⟨b, w⟩ := x
    cases b with
    | true => exact .inr ⟨_, .inl rfl⟩
    | false =>
      rcases h with h | h
      · cases h
      · subst h; exact .inr ⟨_, .inr rfl⟩
theorem good_any {L : Lay} (h : free L) {p q : Option Nat} (g : good p L) : good q L := by
  cases L with
  | nil => trivial
  | cons x L =>
    obtain ⟨b, w⟩ := x
    obtain ⟨c, r, e, h1, h2, h3, h4⟩ := g
    refine ⟨c, r, e, h1, h2, ?_, h4⟩
    rcases h with h | h
    · exact .inl h
    · rw [e] at h
      injection h with h _
      exact .inr (.inr (.inr h))
theorem okB_ok {v : W} (h : okB v = true) : ∃ c r, v = c :: r ∧ c ≠ 32 ∧ wEnd c r = some (r.length + 1) ∧ printable v = true ∧ v.length ≤ 11 := by
  cases v with
  | nil => cases h
  | cons c r =>
    simp only [okB, Bool.and_eq_true, bne_iff_ne, decide_eq_true_eq] at h
    obtain ⟨⟨⟨h1, h2⟩, h3⟩, h4⟩ := h
    exact ⟨c, r, rfl, h1, eq_of_beq h2, h3, by simp; omega⟩
theorem head_good {v : W} (h : okB v = true) {b : Bool} {p : Option Nat} {L : Lay} (hb : b = true ∨ openB p = true ∨ v = [41]) (hf : free L) (g : good none L) : good p ((b, v) :: L) := by
  obtain ⟨c, r, e, h1, h2, _, _⟩ := okB_ok h
  refine ⟨c, r, e, h1, ?_, ?_, good_any hf g⟩
  · rw [e]; exact wEnd_app h2 (free_stop hf)
  · rcases hb with hb | hb | hb
    · exact .inl hb
    · exact .inr (.inl hb)
    · rw [e] at hb
      injection hb with hb _
      exact .inr (.inr (.inr hb))
theorem open_good {b : Bool} {p : Option Nat} {L : Lay} (g : good (some 40) L) : good p ((b, [40]) :: L) :=
  ⟨40, [], rfl, by decide, rfl, .inr (.inr (.inl rfl)), g⟩
theorem lay_head : ∀ (a : Ask) (b : Bool), ∃ w r, layA a b = (b, w) :: r
  | .one w, b => ⟨_, _, rfl⟩
  | .two w v, b => ⟨_, _, rfl⟩
  | .una w x, b => ⟨_, _, rfl⟩
  | .bin w x y, b => by
    obtain ⟨w1, r1, e1⟩ := lay_head x b
    simp only [layA]
    split
    · unfold lbk
      split
      · exact ⟨_, _, rfl⟩
      · rw [e1]; exact ⟨_, _, rfl⟩
    · rw [e1]; exact ⟨_, _, rfl⟩
theorem free_lbk (c : Bool) (x : Ask) (L : Lay) : free (lbk c true (layA x) ++ L) := by
  obtain ⟨w1, r1, e1⟩ := lay_head x true
  unfold lbk
  split
  · exact .inl rfl
  · rw [e1]; exact .inl rfl
theorem ok41 : okB [41] = true := by decide +kernel
theorem good_lbk {f : Bool → Lay} (h : ∀ (b : Bool) (p : Option Nat) (L : Lay), (b = true ∨ openB p = true) → free L → good none L → good p (f b ++ L)) (c b : Bool) (p : Option Nat) (L : Lay) (hb : b = true ∨ openB p = true) (hf : free L) (g : good none L) : good p (lbk c b f ++ L) := by
  unfold lbk
  split
  · have e : ((b, ([40] : W)) :: (f false ++ [(false, ([41] : W))])) ++ L = (b, [40]) :: (f false ++ ((false, [41]) :: L)) := by simp
    rw [e]
    exact open_good (h false (some 40) _ (.inr rfl) (.inr rfl) (head_good ok41 (.inr (.inr rfl)) hf g))
  · exact h b p L hb hf g
/-- the words that are taken -/
def KW : List W := AH ++ JO ++ BA ++ LK ++ [[40], [41]]
theorem KW_VV : ∀ w ∈ KW, w ∈ VV := by decide +kernel
theorem VV_VX {w : W} (h : w ∈ VV) : w ∈ VX := List.mem_cons_of_mem _ h
theorem VX_ok {w : W} (h : w ∈ VX) : okB w = true := List.all_eq_true.mp okB_all w h
theorem AH_KW {w : W} (h : w ∈ AH) : w ∈ KW := by simp [KW, h]
theorem JO_KW {w : W} (h : w ∈ JO) : w ∈ KW := by simp [KW, h]
theorem BA_KW {w : W} (h : w ∈ BA) : w ∈ KW := by simp [KW, h]
theorem LK_KW {w : W} (h : w ∈ LK) : w ∈ KW := by simp [KW, h]
theorem brk_mem {c : Bool} {l : List W} {v : W} (h : v ∈ brk c l) : v ∈ l ∨ v ∈ KW := by
  unfold brk at h
  split at h
  · simp only [List.mem_cons, List.mem_append, List.not_mem_nil, or_false] at h
    rcases h with h | h | h
    · right; subst h; decide
    · exact .inl h
    · right; subst h; decide
  · exact .inl h
theorem toks_mem {ok : W → Prop} (hk : ∀ w ∈ KW, ok w) : ∀ (a : Ask), a.wf ok → ∀ v ∈ toks a, ok v
  | .one w, h, v, hv => by
    simp only [toks, List.mem_cons, List.not_mem_nil, or_false] at hv
    subst hv
    exact hk _ (BA_KW h)
  | .two w u, h, v, hv => by
    simp only [toks, List.mem_cons, List.not_mem_nil, or_false] at hv
    rcases hv with rfl | rfl
    · exact hk _ (LK_KW h.1)
    · exact h.2.1
  | .una w x, h, v, hv => by
    simp only [toks, List.mem_cons] at hv
    rcases hv with rfl | hv
    · exact hk _ (AH_KW h.1)
    · rcases brk_mem hv with hv | hv
      · exact toks_mem hk x h.2 v hv
      · exact hk _ hv
  | .bin w x y, h, v, hv => by
    have b : ∀ c d, v ∈ brk c (toks x) ∨ v ∈ brk d (toks y) → ok v := by
      intro c d hv
      rcases hv with hv | hv
      · rcases brk_mem hv with hv | hv
        · exact toks_mem hk x h.2.1 v hv
        · exact hk _ hv
      · rcases brk_mem hv with hv | hv
        · exact toks_mem hk y h.2.2 v hv
        · exact hk _ hv
    simp only [toks, List.mem_append, List.mem_cons] at hv
    split at hv
    · rcases hv with hv | rfl | hv
      · exact b _ (isJo y) (.inl hv)
      · exact hk _ (JO_KW h.1)
      · exact b (isOr x) _ (.inr hv)
    · rcases hv with hv | rfl | hv
      · exact toks_mem hk x h.2.1 v hv
      · exact hk _ (JO_KW h.1)
      · exact b (isOr x) _ (.inr hv)
theorem toks_VX {a : Ask} (h : a.wf (· ∈ VX)) : ∀ v ∈ toks a, v ∈ VX := toks_mem (fun w hw => VV_VX (KW_VV w hw)) a h
theorem toks_VV {a : Ask} (h : a.wf (· ∈ VV)) : ∀ v ∈ toks a, v ∈ VV := toks_mem KW_VV a h
theorem wf_mono {P Q : W → Prop} : ∀ (a : Ask), a.wf P → (∀ v ∈ toks a, P v → Q v) → a.wf Q
  | .one w, h, _ => h
  | .two w v, h, q => ⟨h.1, q v (by simp [toks]) h.2.1, h.2.2⟩
  | .una w x, h, q => ⟨h.1, wf_mono x h.2 fun v hv => q v (by
      simp only [toks, brk]; split <;> simp [hv])⟩
  | .bin w x y, h, q => ⟨h.1, wf_mono x h.2.1 fun v hv => q v (by
      simp only [toks, brk, List.mem_append]; left; split <;> (try split) <;> simp [hv]), wf_mono y h.2.2 fun v hv => q v (by
      simp only [toks, brk, List.mem_append, List.mem_cons]; right; right; split <;> split <;> simp [hv])⟩
theorem wfX {a : Ask} (h : a.wf (· ∈ VV)) : a.wf (· ∈ VX) := wf_mono a h fun v _ h => VV_VX h
theorem good_lay : ∀ (a : Ask), a.wf (· ∈ VX) → ∀ (b : Bool) (p : Option Nat) (L : Lay), (b = true ∨ openB p = true) → free L → good none L → good p (layA a b ++ L)
  | .one w, h, b, p, L, hb, hf, g => head_good (VX_ok (VV_VX (KW_VV _ (BA_KW h)))) (by rcases hb with z | z; exact .inl z; exact .inr (.inl z)) hf g
  | .two w v, h, b, p, L, hb, hf, g => head_good (L := (true, v) :: L) (VX_ok (VV_VX (KW_VV _ (LK_KW h.1)))) (by rcases hb with z | z; exact .inl z; exact .inr (.inl z)) (.inl rfl) (head_good (VX_ok h.2.1) (.inl rfl) hf g)
  | .una w x, h, b, p, L, hb, hf, g => head_good (L := lbk (isJo x) true (layA x) ++ L) (VX_ok (VV_VX (KW_VV _ (AH_KW h.1)))) (by rcases hb with z | z; exact .inl z; exact .inr (.inl z)) (free_lbk _ _ _) (good_lbk (good_lay x h.2) _ _ _ _ (.inl rfl) hf g)
  | .bin w x y, h, b, p, L, hb, hf, g => by
    have gx := good_lay x h.2.1
    have gy := good_lay y h.2.2
    have ow : okB w = true := VX_ok (VV_VX (KW_VV _ (JO_KW h.1)))
    simp only [layA]
    rw [List.append_assoc, List.cons_append]
    split
    · refine good_lbk gx _ _ _ _ hb (.inl rfl) (head_good ow (.inl rfl) (free_lbk _ _ _) (good_lbk gy _ _ _ _ (.inl rfl) hf g))
    · refine gx _ _ _ hb (.inl rfl) (head_good ow (.inl rfl) (free_lbk _ _ _) (good_lbk gy _ _ _ _ (.inl rfl) hf g))
theorem lay_good {a : Ask} (h : a.wf (· ∈ VX)) : good none (layA a false) := by
  have := good_lay a h false none [] (.inr rfl) trivial trivial
  rwa [List.append_nil] at this
theorem printable_app (a b : List Nat) : printable (a ++ b) = (printable a && printable b) := by simp [printable]
theorem txt_small : ∀ (L : Lay), (∀ v ∈ L.map (·.2), okB v = true) → printable (txt L) = true ∧ (txt L).length ≤ 12 * L.length
  | [], _ => ⟨rfl, by decide⟩
  | (b, w) :: L, h => by
    obtain ⟨i1, i2⟩ := txt_small L fun v hv => h v (List.mem_cons_of_mem _ hv)
    obtain ⟨_, _, _, _, _, h1, h2⟩ := okB_ok (h w (by simp))
    have hp : ∀ l, printable (32 :: l) = printable l := fun l => by simp [printable]
    cases b with
    | true =>
      simp only [txt]
      rw [hp, printable_app, h1, i1]
      refine ⟨rfl, ?_⟩
      simp only [List.length_cons, List.length_append]; omega
    | false =>
      simp only [txt]
      rw [printable_app, h1, i1]
      refine ⟨rfl, ?_⟩
      simp only [List.length_cons, List.length_append]; omega
/-! ### rows -/
def spL : List W → Lay
  | [] => []
  | w :: ws => (false, w) :: ws.map fun v => (true, v)
theorem spL_snd (ws : List W) : (spL ws).map (·.2) = ws := by
  cases ws with
  | nil => rfl
  | cons w ws =>
    have : ∀ l : List W, (l.map fun v => ((true, v) : Bool × W)).map (·.2) = l := fun l => by
      induction l with
      | nil => rfl
      | cons a l ih => simp only [List.map_cons, ih]
    simp only [spL, List.map_cons, this]
theorem join_sp : ∀ (ws : List W), joinS [32] ws = txt (spL ws)
  | [] => rfl
  | [w] => by simp [joinS, spL, txt]
  | w :: v :: ws => by
    have := join_sp (v :: ws)
    simp only [joinS] at this ⊢
    rw [this]
    simp [spL, txt]
theorem good_sp : ∀ (ws : List W), (∀ v ∈ ws, okB v = true) → good none (ws.map fun v => (true, v))
  | [], _ => trivial
  | w :: ws, h => head_good (h w (by simp)) (.inl rfl) (by cases ws <;> first | trivial | exact .inl rfl) (good_sp ws fun v hv => h v (List.mem_cons_of_mem _ hv))
theorem sp_good (ws : List W) (h : ∀ v ∈ ws, okB v = true) : good none (spL ws) := by
  cases ws with
  | nil => trivial
  | cons w ws => exact head_good (h w (by simp)) (.inr (.inl rfl)) (by cases ws <;> first | trivial | exact .inl rfl) (good_sp ws fun v hv => h v (List.mem_cons_of_mem _ hv))
end K12
end

section
set_option linter.all false
set_option maxRecDepth 100000
set_option maxHeartbeats 1000000
/-! K12u: law_words: the words of a text. -/
namespace K12
open Ev
theorem replS1 (a : Nat) (z : List Nat) : ∀ x : List Nat, replS [a] z 0 x = x.flatMap fun c => if c = a then z else [c]
  | [] => rfl
  | c :: r => by
    rw [List.flatMap_cons, ← replS1 a z r]
    simp only [replS]
    by_cases h : c = a
    · subst h; simp
    · simp [h]
def m40 (c : Nat) : List Nat := if c = 40 then [40, 32] else [c]
def m41 (c : Nat) : List Nat := if c = 41 then [32, 41] else [c]
def rep2 (t : List Nat) : List Nat := (t.flatMap m40).flatMap m41
theorem rep2_is (t : List Nat) : replS [41] [32, 41] 0 (replS [40] [40, 32] 0 t) = rep2 t := by
  rw [replS1, replS1]
  rfl
theorem rep2_app (a b : List Nat) : rep2 (a ++ b) = rep2 a ++ rep2 b := by simp [rep2]
theorem rep2_32 (t : List Nat) : rep2 (32 :: t) = 32 :: rep2 t := by simp [rep2, m40, m41]
theorem rep2_id : ∀ w : List Nat, 40 ∉ w → 41 ∉ w → rep2 w = w
  | [], _, _ => rfl
  | c :: w, h1, h2 => by
    have i := rep2_id w (fun z => h1 (by simp [z])) (fun z => h2 (by simp [z]))
    have a1 : ¬ c = 40 := fun z => h1 (by simp [z])
    have a2 : ¬ c = 41 := fun z => h2 (by simp [z])
    have e : rep2 (c :: w) = c :: rep2 w := by simp [rep2, m40, m41, a1, a2]
    rw [e, i]
theorem map_len {f : Nat → List Nat} (hf : ∀ c, (f c).length ≤ 2) : ∀ t : List Nat, (t.flatMap f).length ≤ 2 * t.length
  | [] => by simp
  | c :: t => by
    have := map_len hf t
    have := hf c
    rw [List.flatMap_cons, List.length_append, List.length_cons]; omega
theorem joinS_app (y : List Nat) : ∀ (A B : List W), A ≠ [] → B ≠ [] → joinS y (A ++ B) = joinS y A ++ y ++ joinS y B
  | [], B, h, _ => absurd rfl h
  | [a], B, _, h => by
    cases B with
    | nil => exact absurd rfl h
    | cons b B => simp [joinS]
  | a :: c :: A, B, _, h => by
    have := joinS_app y (c :: A) B (by simp) h
    rw [List.cons_append, List.cons_append] at *
    simp only [joinS]
    rw [this]
    simp
theorem toks_ne (a : Ask) : toks a ≠ [] := by
  cases a with
  | one w => simp [toks]
  | two w v => simp [toks]
  | una w x => simp [toks]
  | bin w x y => simp [toks]
theorem brk_ne (c : Bool) {l : List W} (h : l ≠ []) : brk c l ≠ [] := by
  unfold brk; split
  · simp
  · exact h
theorem rep2_bk (c : Bool) {t : List Nat} {l : List W} (hl : l ≠ []) (h : rep2 t = joinS [32] l) : rep2 (bk c t) = joinS [32] (brk c l) := by
  unfold bk brk
  split
  · have e : rep2 (40 :: (t ++ [41])) = [40, 32] ++ (rep2 t ++ [32, 41]) := by simp [rep2, m40, m41]
    have e2 : ([40] : W) :: (l ++ [[41]]) = [[40]] ++ (l ++ [[41]]) := rfl
    rw [e, h, e2, joinS_app _ _ _ (by simp) (by simp), joinS_app _ _ _ hl (by simp)]
    simp [joinS]
  · exact h
theorem no_par : ∀ w ∈ BA ++ LK ++ AH ++ JO, 40 ∉ w ∧ 41 ∉ w ∧ 32 ∉ w := by decide +kernel
theorem rep2_tx : ∀ (a : Ask), a.wf (· ∈ VX) → rep2 (tx a) = joinS [32] (toks a)
  | .one w, h => by
    rw [tx_one]
    have n := no_par w (by simp only [List.mem_append]; exact .inl (.inl (.inl h)))
    exact rep2_id w n.1 n.2.1
  | .two w v, h => by
    rw [tx_two, rep2_app, rep2_32]
    have n := no_par w (by simp only [List.mem_append]; exact .inl (.inl (.inr h.1)))
    obtain ⟨d, hd⟩ := Option.isSome_iff_exists.mp h.2.2
    have t := tab h.1 h.2.1 hd
    rw [rep2_id w n.1 n.2.1, rep2_id v t.n40 t.n41]
    simp [toks, joinS]
  | .una w x, h => by
    rw [tx_una, rep2_app, rep2_32]
    have n := no_par w (by simp only [List.mem_append]; exact .inl (.inr h.1))
    rw [rep2_id w n.1 n.2.1, rep2_bk _ (toks_ne x) (rep2_tx x h.2)]
    have e : toks (.una w x) = [w] ++ brk (isJo x) (toks x) := rfl
    rw [e, joinS_app _ _ _ (by simp) (brk_ne _ (toks_ne x))]
    simp [joinS]
  | .bin w x y, h => by
    have n := no_par w (by simp only [List.mem_append]; exact .inr h.1)
    have ix := rep2_tx x h.2.1
    have iy := rep2_tx y h.2.2
    have hw := h.1
    simp only [JO, List.mem_cons, List.not_mem_nil, or_false] at hw
    rcases hw with rfl | rfl
    · rw [tx_and, rep2_app, rep2_32, rep2_app, rep2_32, rep2_id wAnd n.1 n.2.1, rep2_bk _ (toks_ne x) ix, rep2_bk _ (toks_ne y) iy]
      have e : toks (.bin wAnd x y) = brk (isOr x) (toks x) ++ ([wAnd] ++ brk (isJo y) (toks y)) := by simp [toks]
      show _ = joinS [32] (toks (.bin wAnd x y))
      rw [e, joinS_app _ _ _ (brk_ne _ (toks_ne x)) (by simp), joinS_app _ _ _ (by simp) (brk_ne _ (toks_ne y))]
      simp [joinS]
    · rw [tx_or, rep2_app, rep2_32, rep2_app, rep2_32, rep2_id wOr n.1 n.2.1, ix, rep2_bk _ (toks_ne y) iy]
      have hne : ¬ wOr = wAnd := by decide
      have e : toks (.bin wOr x y) = toks x ++ ([wOr] ++ brk (isOr y) (toks y)) := by simp [toks, hne]
      show _ = joinS [32] (toks (.bin wOr x y))
      rw [e, joinS_app _ _ _ (toks_ne x) (by simp), joinS_app _ _ _ (by simp) (brk_ne _ (toks_ne y))]
      simp [joinS]
/-! ### splitting -/
theorem spl_word : ∀ (w acc r : List Nat), 32 ∉ w → splS [32] 0 acc (w ++ r) = splS [32] 0 (acc ++ w) r
  | [], acc, r, _ => by simp
  | c :: w, acc, r, h => by
    have a1 : ¬ c = 32 := fun z => h (by simp [z])
    have i := spl_word w (acc ++ [c]) r (fun z => h (by simp [z]))
    rw [List.cons_append]
    simp only [splS]
    have e : ((c :: (w ++ r)).take [32].length == [32]) = false := by simp [a1]
    rw [e]
    simp only [Bool.false_eq_true, if_false]
    rw [i]
    simp
theorem spl_join : ∀ (ws : List W) (w : W), 32 ∉ w → (∀ v ∈ ws, 32 ∉ v) → splS [32] 0 [] (joinS [32] (w :: ws)) = w :: ws
  | [], w, h, _ => by
    simp only [joinS]
    have := spl_word w [] [] h
    rw [List.append_nil] at this
    rw [this]
    simp [splS]
  | v :: ws, w, h, hs => by
    simp only [joinS]
    rw [List.append_assoc, spl_word w [] _ h]
    have e : splS [32] 0 ([] ++ w) ([32] ++ joinS [32] (v :: ws)) = w :: splS [32] 0 [] (joinS [32] (v :: ws)) := by
      simp [splS]
    rw [e, spl_join ws v (hs v (by simp)) (fun u hu => hs u (by simp [hu]))]
theorem no_blank {a : Ask} (h : a.wf (· ∈ VV)) : ∀ v ∈ toks a, 32 ∉ v := by
  have : ∀ v ∈ VV, 32 ∉ v := by decide +kernel
  exact fun v hv => this v (toks_VV h v hv)
/-- LAW_WORDS -/
theorem law_words (k : Nat) {a : Ask} (h : a.wf (· ∈ VV)) (hz : (tx a).length ≤ 1000000) : callF pr (k + 1) 40 [.str (tx a)] = .ok (.f, .lst ((toks a).map .str), []) := by
  rw [cf (fn := f40) rfl rfl]
  have l1 : (replS [40] [40, 32] 0 (tx a)).length ≤ 2 * (tx a).length := by
    rw [replS1]
    refine map_len (fun c => ?_) _
    split <;> simp
  have l2 : (rep2 (tx a)).length ≤ 4 * (tx a).length := by
    have q1 : ∀ c, (m40 c).length ≤ 2 := fun c => by unfold m40; split <;> simp
    have q2 : ∀ c, (m41 c).length ≤ 2 := fun c => by unfold m41; split <;> simp
    have a1 := map_len q1 (tx a)
    have a2 := map_len q2 ((tx a).flatMap m40)
    unfold rep2
    omega
  have e1 : mthD .replace (.str (tx a)) [.str [40], .str [40, 32]] = some (.v, .str (replS [40] [40, 32] 0 (tx a))) := by
    have : 1 ≤ [40].length ∧ (tx a).length + ((tx a).length + 1) * [40, 32].length ≤ szl := by
      simp only [List.length_cons, List.length_nil]; unfold szl; omega
    simp only [mthD, this, and_self, if_true]
  have e2 : mthD .replace (.str (replS [40] [40, 32] 0 (tx a))) [.str [41], .str [32, 41]] = some (.v, .str (rep2 (tx a))) := by
    have : 1 ≤ [41].length ∧ (replS [40] [40, 32] 0 (tx a)).length + ((replS [40] [40, 32] 0 (tx a)).length + 1) * [32, 41].length ≤ szl := by
      simp only [List.length_cons, List.length_nil]; unfold szl; omega
    simp only [mthD, this, and_self, if_true, rep2_is]
  have e3 : mthD .split (.str (rep2 (tx a))) [.str [32]] = some (.f, .lst ((toks a).map .str)) := by
    have hs : splS [32] 0 [] (rep2 (tx a)) = toks a := by
      rw [rep2_tx a (wfX h)]
      have := no_blank h
      cases e : toks a with
      | nil => exact absurd e (toks_ne a)
      | cons w ws =>
        rw [e] at this
        exact spl_join ws w (this w (by simp)) fun v hv => this v (by simp [hv])
    have : 1 ≤ [32].length ∧ (rep2 (tx a)).length + 2 ≤ szl ∧ [32].all (· < 256) = true := by
      refine ⟨by simp, ?_, by decide⟩
      unfold szl; omega
    simp only [mthD, this, and_self, if_true, hs]
  show Ev.finish f40 (evSs (callF pr k) (.cons (.ret _) .nil) [.val (.str (tx a)), .none, .none, .none, .none]) = _
  rw [one_st, s_ret, e_mth, e_mth, e_mth]
  simp only [e_var, e_cst, es_cons, es_nil]
  simp only [getV, List.getElem?_cons_zero, b_ok, isStrD, if_true, st_f, List.cons_append, List.nil_append, List.map_cons, List.map_nil, e1, e2, e3, okK_s]
  rfl
end K12
end

section
set_option linter.all false
set_option maxRecDepth 100000
set_option maxHeartbeats 1000000
/-! K12v: law_same of an ask and itself; law_written. -/
namespace K12
open Ev
theorem mono {P : Nat → Prop} {n k : Nat} (h : n + 1 ≤ k) (f : ∀ m, n ≤ m → P (m + 1)) : P k := by
  obtain ⟨m, rfl⟩ : ∃ m, k = m + 1 := ⟨k - 1, by omega⟩
  exact f m (by omega)
theorem loop_none {cl : Cl} {own : List Nat} {tg : Tg} {c e : E} {ρ : List Slot} : ∀ ds : List D, (∀ d ∈ ds, stepC cl own tg c e ρ d = .ok none) → loopC cl own tg c e ρ ds = .ok []
  | [], _ => rfl
  | d :: ds, h => by
    rw [loopC_cons, h d (List.mem_cons_self ..), loop_none ds fun x hx => h x (List.mem_cons_of_mem _ hx)]
    rfl
theorem same_str (k : Nat) (s : W) : callF pr (k + 1) 33 [.str s, .str s] = .ok (.v, .bl true, []) := by
  rw [cf (fn := f33) rfl rfl]
  simp [f33, startF, getV, isScr, isiD, is_non, isNonD, eq_str, cmpD, dep, eqD]
theorem same_int (k : Nat) (s : Int) : callF pr (k + 1) 33 [.int s, .int s] = .ok (.v, .bl true, []) := by
  rw [cf (fn := f33) rfl rfl]
  simp [f33, startF, getV, isScr, isiD, is_non, isNonD, cmpD, dep, eqD]
theorem ix_at {ds : List D} {j : Nat} {d : D} (h : ds[j]? = some d) : idxD (.tup ds) (.int (0 + (j : Int))) = some d := by
  have hl : j < ds.length := (List.getElem?_eq_some_iff.mp h).1
  have hi : ixD ds.length (0 + (j : Int)) = some j := by
    unfold ixD
    rw [if_pos (by omega), if_pos (by omega)]
    congr 1
    omega
  rw [ix_tup, hi]
  exact h
theorem and_eq_nil {cl : Cl} {ρ : List Slot} {a b : E} (h1 : evE cl a ρ = .ok (.v, .bl true)) (h2 : evE cl b ρ = .ok (.f, .lst [])) : evE cl (.and a (.cmp .eq b (.lst .nil))) ρ = .ok (.v, .bl true) := by
  rw [e_and, h1]
  show evE cl (.cmp .eq b (.lst .nil)) ρ = _
  rw [e_cmp, h2]
  rfl
theorem same_tup (k : Nat) (ds : List D) (hl : ds.length ≤ 1000) (h : ∀ d ∈ ds, callF pr k 33 [d, d] = .ok (.v, .bl true, [])) : callF pr (k + 1) 33 [.tup ds, .tup ds] = .ok (.v, .bl true, []) := by
  rw [cf (fn := f33) rfl rfl]
  have st : ∀ d ∈ rngL 0 ds.length, stepC (callF pr k) [4] (.one 4) (.not (.call 33 (.cons false (.idx (.var 0) (.var 4)) (.cons false (.idx (.var 1) (.var 4)) .nil)))) (.var 4) [.val (.tup ds), .val (.tup ds), .none, .none, .none, .none] d = .ok none := by
    intro d hd
    obtain ⟨j, hj, rfl⟩ := mem_rng _ _ _ hd
    have hg : ds[j]? = some ds[j] := List.getElem?_eq_getElem hj
    have hs := h ds[j] (List.getElem_mem hj)
    have e0 : evE (callF pr k) (.idx (.var 0) (.var 4)) [.val (.tup ds), .val (.tup ds), .none, .none, .val (.int (0 + (j : Int))), .none] = .ok (.v, ds[j]) := by
      show okV (idxD (.tup ds) (.int (0 + (j : Int)))) = _
      rw [ix_at hg]; rfl
    have e1 : evE (callF pr k) (.idx (.var 1) (.var 4)) [.val (.tup ds), .val (.tup ds), .none, .none, .val (.int (0 + (j : Int))), .none] = .ok (.v, ds[j]) := by
      show okV (idxD (.tup ds) (.int (0 + (j : Int)))) = _
      rw [ix_at hg]; rfl
    have e2 : evE (callF pr k) (.not (.call 33 (.cons false (.idx (.var 0) (.var 4)) (.cons false (.idx (.var 1) (.var 4)) .nil)))) [.val (.tup ds), .val (.tup ds), .none, .none, .val (.int (0 + (j : Int))), .none] = .ok (.v, .bl false) := by
      rw [e_not, e_call, es_cons, e0, es_cons, e1, es_nil]
      show (R.bind ((callF pr k 33 [ds[j], ds[j]]).bind fun r => afterCall false r) _) = _
      rw [hs]
      rfl
    show (R.bind (truthR (evE (callF pr k) (.not (.call 33 (.cons false (.idx (.var 0) (.var 4)) (.cons false (.idx (.var 1) (.var 4)) .nil)))) [.val (.tup ds), .val (.tup ds), .none, .none, .val (.int (0 + (j : Int))), .none])) _) = _
    rw [e2]
    rfl
  have hr := loop_none _ st
  have el : ∀ i, i < 2 → evE (callF pr k) (.blt .len (.cons false (.var i) .nil)) [.val (.tup ds), .val (.tup ds), .none, .none, .none, .none] = .ok (.v, .int ds.length) := by
    intro i hi
    have : i = 0 ∨ i = 1 := by omega
    rcases this with rfl | rfl <;> rfl
  have ec := cmpr_rng (cl := callF pr k) (e := .blt .len (.cons false (.var 0) .nil)) (n := ds.length) (by omega) (el 0 (by decide)) hr
  have c1 : truthR (evE (callF pr k) (.and (.isi (.var 0) [.ttuple]) (.isi (.var 1) [.ttuple])) [.val (.tup ds), .val (.tup ds), .none, .none, .none, .none]) = .ok true := rfl
  have e3 : evE (callF pr k) (.cmp .eq (.blt .len (.cons false (.var 0) .nil)) (.blt .len (.cons false (.var 1) .nil))) [.val (.tup ds), .val (.tup ds), .none, .none, .none, .none] = .ok (.v, .bl true) := by
    rw [e_cmp, el 0 (by decide), el 1 (by decide)]
    simp [eq_int]
  show Ev.finish f33 (evSs (callF pr k) (.cons (.ifS (.and (.isi (.var 0) [.ttuple]) (.isi (.var 1) [.ttuple])) _ .nil) _) [.val (.tup ds), .val (.tup ds), .none, .none, .none, .none]) = _
  rw [ss_rt (k := .v) (d := .bl true) (ρ' := [.val (.tup ds), .val (.tup ds), .none, .none, .none, .none])]
  · rfl
  rw [if_t c1, one_st]
  exact ret_v (and_eq_nil e3 ec)
def Ask.hd : Ask → W
  | .one w => w
  | .two w _ => w
  | .una w _ => w
  | .bin w _ _ => w
theorem size_pos (a : Ask) : 1 ≤ a.size := by cases a <;> simp [Ask.size]
theorem same_ask : ∀ (a : Ask), a.wf (· ∈ VX) → ∀ k, 30 + a.size ≤ k → callF pr k 33 [a.d, a.d] = .ok (.v, .bl true, [])
  | .one w, h, k, hk => (bar h).sm k (by omega)
  | .two w v, h, k, hk => by
    obtain ⟨d, hd⟩ := Option.isSome_iff_exists.mp h.2.2
    rw [(rl_some hd).2]
    exact (tab h.1 h.2.1 hd).sm k (by omega)
  | .una w x, h, k, hk => by
    simp only [Ask.size] at hk
    obtain ⟨m, rfl⟩ : ∃ m, k = m + 1 := ⟨k - 1, by omega⟩
    have hm : 30 + x.size ≤ m := by omega
    refine same_tup m [.str w, x.d] (show 2 ≤ 1000 by decide) ?_
    intro d hd
    simp only [List.mem_cons, List.not_mem_nil, or_false] at hd
    rcases hd with rfl | rfl
    · obtain ⟨m, rfl⟩ : ∃ n, m = n + 1 := ⟨m - 1, by omega⟩
      exact same_str m w
    · exact same_ask x h.2 m hm
  | .bin w x y, h, k, hk => by
    simp only [Ask.size] at hk
    obtain ⟨m, rfl⟩ : ∃ m, k = m + 1 := ⟨k - 1, by omega⟩
    have hm : 30 + x.size + y.size ≤ m := by omega
    refine same_tup m [.str w, x.d, y.d] (show 3 ≤ 1000 by decide) ?_
    intro d hd
    simp only [List.mem_cons, List.not_mem_nil, or_false] at hd
    rcases hd with rfl | rfl | rfl
    · obtain ⟨m, rfl⟩ : ∃ n, m = n + 1 := ⟨m - 1, by omega⟩
      exact same_str m w
    · exact same_ask x h.2.1 m (by omega)
    · exact same_ask y h.2.2 m (by omega)
/-! ### law_written -/
def needB (t : Nat) : Ask → Bool
  | .bin w _ _ => if w = wAnd then decide (2 < t) else decide (1 < t)
  | _ => false
theorem tx_len {a : Ask} (h : a.wf (· ∈ VX)) : printable (tx a) = true ∧ (tx a).length ≤ 12 * (toks a).length := by
  have := txt_small (layA a false) (by rw [lay_snd]; exact fun v hv => VX_ok (toks_VX h v hv))
  refine ⟨this.1, ?_⟩
  have e : (layA a false).length = (toks a).length := by rw [← lay_snd a false]; simp
  rw [← e]
  exact this.2
theorem tx_small {a : Ask} (h : a.wf (· ∈ VX)) (hs : a.size ≤ 1000) : (tx a).length ≤ 60000 := by
  have h1 := (tx_len h).2
  have h2 : ∀ a : Ask, (toks a).length ≤ 5 * a.size := by
    intro a
    induction a with
    | one w => simp [toks, Ask.size]
    | two w v => simp [toks, Ask.size]
    | una w x ih =>
      have := len_una w x
      simp only [Ask.size]; omega
    | bin w x y i1 i2 =>
      have := len_bin w x y
      simp only [Ask.size]; omega
  have := h2 a
  omega
theorem add_str (x y : List Nat) (h : x.length + y.length ≤ szl) : binD .add (.str x) (.str y) = some (.v, .str (x ++ y)) := by
  simp only [binD, h, if_true]
theorem eadd {cl : Cl} {ρ : List Slot} {e1 e2 : E} {x y : List Nat} (h1 : evE cl e1 ρ = .ok (.v, .str x)) (h2 : evE cl e2 ρ = .ok (.v, .str y)) (h : x.length + y.length ≤ 1000000) : evE cl (.bin .add e1 e2) ρ = .ok (.v, .str (x ++ y)) := by
  rw [e_bin, h1, b_ok, h2, b_ok]
  show okK (binD .add (.str x) (.str y)) = _
  rw [add_str x y (by unfold szl; omega)]
  rfl
theorem call2 {cl : Cl} {ρ : List Slot} {f : Nat} {e1 e2 : E} {d1 d2 d : D} (h1 : evE cl e1 ρ = .ok (.v, d1)) (h2 : evE cl e2 ρ = .ok (.v, d2)) (h : cl f [d1, d2] = .ok (.v, d, [])) : evE cl (.call f (.cons false e1 (.cons false e2 .nil))) ρ = .ok (.v, d) := by
  rw [e_call, es_cons, h1, es_cons, h2, es_nil]
  show (cl f [d1, d2]).bind (fun r => afterCall false r) = _
  rw [h]
  rfl
theorem call1 {cl : Cl} {ρ : List Slot} {f : Nat} {e1 : E} {d1 d : D} (h1 : evE cl e1 ρ = .ok (.v, d1)) (h : cl f [d1] = .ok (.v, d, [])) : evE cl (.call f (.cons false e1 .nil)) ρ = .ok (.v, d) := by
  rw [e_call, es_cons, h1, es_nil]
  show (cl f [d1]).bind (fun r => afterCall false r) = _
  rw [h]
  rfl
abbrev WT : Ss := (.cons (.asg (.one 3) (.ite (.cmp .eq (.var 2) (.cst (.str [97, 110, 100]))) (.cst (.int 2)) (.cst (.int 1)))) (.cons (.asg (.one 4) (.bin .add (.bin .add (.bin .add (.bin .add (.call 35 (.cons false (.idx (.var 0) (.cst (.int 1))) (.cons false (.var 3) .nil))) (.cst (.str [32]))) (.var 2)) (.cst (.str [32]))) (.call 35 (.cons false (.idx (.var 0) (.cst (.int 2))) (.cons false (.bin .add (.var 3) (.cst (.int 1))) .nil))))) (.cons (.ret (.ite (.cmp .lt (.var 3) (.var 1)) (.bin .add (.bin .add (.cst (.str [40])) (.var 4)) (.cst (.str [41]))) (.var 4))) .nil)))
theorem bk_len (c : Bool) (t : List Nat) : (bk c t).length ≤ t.length + 2 := by
  unfold bk; split <;> simp
theorem wt_run (m r t : Nat) (w : W) (X Y : D) (tX tY : List Nat) (hw : (w = wAnd ∧ r = 2) ∨ (w = wOr ∧ r = 1)) (hX : callF pr m 35 [X, .int r] = .ok (.v, .str tX, [])) (hY : callF pr m 35 [Y, .int (r + 1 : Nat)] = .ok (.v, .str tY, [])) (lX : tX.length ≤ 100000) (lY : tY.length ≤ 100000) :
    ∃ ρ, evSs (callF pr m) WT [.val (.tup [.str w, X, Y]), .val (.int t), .val (.str w), .none, .none, .none, .none, .none, .none] = .rt .v (.str (bk (decide (r < t)) (tX ++ 32 :: (w ++ 32 :: tY)))) ρ := by
  have lw : w.length ≤ 3 := by
    rcases hw with ⟨rfl, _⟩ | ⟨rfl, _⟩ <;> decide
  have t3 : evS (callF pr m) (.asg (.one 3) (.ite (.cmp .eq (.var 2) (.cst (.str [97, 110, 100]))) (.cst (.int 2)) (.cst (.int 1)))) [.val (.tup [.str w, X, Y]), .val (.int t), .val (.str w), .none, .none, .none, .none, .none, .none] = .nx [.val (.tup [.str w, X, Y]), .val (.int t), .val (.str w), .val (.int r), .none, .none, .none, .none, .none] := by
    rcases hw with ⟨rfl, rfl⟩ | ⟨rfl, rfl⟩ <;> rfl
  have eX : evE (callF pr m) (.call 35 (.cons false (.idx (.var 0) (.cst (.int 1))) (.cons false (.var 3) .nil))) [.val (.tup [.str w, X, Y]), .val (.int t), .val (.str w), .val (.int r), .none, .none, .none, .none, .none] = .ok (.v, .str tX) := call2 rfl rfl hX
  have eY : evE (callF pr m) (.call 35 (.cons false (.idx (.var 0) (.cst (.int 2))) (.cons false (.bin .add (.var 3) (.cst (.int 1))) .nil))) [.val (.tup [.str w, X, Y]), .val (.int t), .val (.str w), .val (.int r), .none, .none, .none, .none, .none] = .ok (.v, .str tY) := call2 (d1 := Y) (d2 := .int (r + 1 : Nat)) rfl rfl hY
  have e4 := eadd (eadd (eadd (eadd eX (show evE (callF pr m) (.cst (.str [32])) _ = _ from rfl) (by simp; omega)) (show evE (callF pr m) (.var 2) _ = .ok (.v, .str w) from rfl) (by simp; omega)) (show evE (callF pr m) (.cst (.str [32])) _ = _ from rfl) (by simp; omega)) eY (by simp; omega)
  have ee : tX ++ [32] ++ w ++ [32] ++ tY = tX ++ 32 :: (w ++ 32 :: tY) := by simp
  rw [ee] at e4
  have hl : (tX ++ 32 :: (w ++ 32 :: tY)).length ≤ 300000 := by
    simp only [List.length_append, List.length_cons]; omega
  generalize tX ++ 32 :: (w ++ 32 :: tY) = T at e4 hl
  refine ⟨[.val (.tup [.str w, X, Y]), .val (.int t), .val (.str w), .val (.int r), .val (.str T), .none, .none, .none, .none], ?_⟩
  rw [ss_nx t3, ss_nx (ρ' := [.val (.tup [.str w, X, Y]), .val (.int t), .val (.str w), .val (.int r), .val (.str T), .none, .none, .none, .none]) (by rw [s_asg, e4]; rfl), one_st]
  refine ret_v ?_
  have ec : evE (callF pr m) (.cmp .lt (.var 3) (.var 1)) [.val (.tup [.str w, X, Y]), .val (.int t), .val (.str w), .val (.int r), .val (.str T), .none, .none, .none, .none] = .ok (.v, .bl (decide ((r : Int) < (t : Int)))) := rfl
  rw [e_ite, ec]
  unfold bk
  by_cases q : r < t
  · have q' : (r : Int) < (t : Int) := by omega
    rw [decide_eq_true q', decide_eq_true q]
    have := eadd (eadd (show evE (callF pr m) (.cst (.str [40])) [.val (.tup [.str w, X, Y]), .val (.int t), .val (.str w), .val (.int r), .val (.str T), .none, .none, .none, .none] = _ from rfl) (show evE (callF pr m) (.var 4) _ = .ok (.v, .str T) from rfl) (by simp; omega)) (show evE (callF pr m) (.cst (.str [41])) _ = _ from rfl) (by simp; omega)
    show evE (callF pr m) (.bin .add (.bin .add (.cst (.str [40])) (.var 4)) (.cst (.str [41]))) _ = _
    rw [this]
    rfl
  · have q' : ¬ (r : Int) < (t : Int) := by omega
    rw [decide_eq_false q', decide_eq_false q]
    rfl
theorem written_law : ∀ (a : Ask), a.wf (· ∈ VX) → a.size ≤ 1000 → ∀ (t k : Nat), t ≤ 3 → 30 + a.size ≤ k → callF pr k 35 [a.d, .int t] = .ok (.v, .str (bk (needB t a) (tx a)), [])
  | .one w, h, hs, t, k, ht, hk => by
    rw [tx_one]
    exact (bar h).wr t ht k (by omega)
  | .two w v, h, hs, t, k, ht, hk => by
    obtain ⟨d, hd⟩ := Option.isSome_iff_exists.mp h.2.2
    rw [(rl_some hd).2, tx_two]
    exact (tab h.1 h.2.1 hd).wr t ht k (by omega)
  | .una w x, h, hs, t, k, ht, hk => by
    simp only [Ask.size] at hk hs
    have lx := tx_small h.2 (by omega)
    obtain ⟨m, rfl⟩ : ∃ m, k = m + 1 := ⟨k - 1, by omega⟩
    have hm : 30 + x.size ≤ m := by omega
    rw [cf (fn := f35) rfl rfl]
    have hx := written_law x h.2 (by omega) 3 m (by omega) hm
    have en : needB 3 x = isJo x := by
      cases x with
      | bin w x y => simp only [needB, isJo]; split <;> rfl
      | _ => rfl
    rw [en] at hx
    have hw := h.1
    have lb := bk_len (isJo x) (tx x)
    have ex : evE (callF pr m) (.call 35 (.cons false (.idx (.var 0) (.cst (.int 1))) (.cons false (.cst (.int 3)) .nil))) [.val (.tup [.str w, x.d]), .val (.int t), .val (.str w), .none, .none, .none, .none, .none, .none] = .ok (.v, .str (bk (isJo x) (tx x))) := call2 rfl rfl hx
    simp only [AH, List.mem_cons, List.not_mem_nil, or_false] at hw
    rw [tx_una]
    rcases hw with rfl | rfl
    · have e := eadd (eadd (show evE (callF pr m) (.var 2) [.val (.tup [.str [110, 111, 116], x.d]), .val (.int t), .val (.str [110, 111, 116]), .none, .none, .none, .none, .none, .none] = _ from rfl) (show evE (callF pr m) (.cst (.str [32])) _ = _ from rfl) (by simp)) ex (by simp; omega)
      show Ev.finish f35 (evSs (callF pr m) f35.body [.val (.tup [.str [110, 111, 116], x.d]), .val (.int t), .none, .none, .none, .none, .none, .none, .none]) = _
      unfold f35
      rw [ss_nx (ρ' := [.val (.tup [.str [110, 111, 116], x.d]), .val (.int t), .val (.str [110, 111, 116]), .none, .none, .none, .none, .none, .none]) (by rfl), ss_nx (ρ' := [.val (.tup [.str [110, 111, 116], x.d]), .val (.int t), .val (.str [110, 111, 116]), .none, .none, .none, .none, .none, .none]) (by rw [if_f (by rfl)]; rfl), ss_rt (by rw [if_t (by rfl), one_st]; exact ret_v e)]
      simp [f_rt, needB, bk]
    · have e := eadd (eadd (show evE (callF pr m) (.var 2) [.val (.tup [.str [110, 101, 101, 100, 115], x.d]), .val (.int t), .val (.str [110, 101, 101, 100, 115]), .none, .none, .none, .none, .none, .none] = _ from rfl) (show evE (callF pr m) (.cst (.str [32])) _ = _ from rfl) (by simp)) ex (by simp; omega)
      show Ev.finish f35 (evSs (callF pr m) f35.body [.val (.tup [.str [110, 101, 101, 100, 115], x.d]), .val (.int t), .none, .none, .none, .none, .none, .none, .none]) = _
      unfold f35
      rw [ss_nx (ρ' := [.val (.tup [.str [110, 101, 101, 100, 115], x.d]), .val (.int t), .val (.str [110, 101, 101, 100, 115]), .none, .none, .none, .none, .none, .none]) (by rfl), ss_nx (ρ' := [.val (.tup [.str [110, 101, 101, 100, 115], x.d]), .val (.int t), .val (.str [110, 101, 101, 100, 115]), .none, .none, .none, .none, .none, .none]) (by rw [if_f (by rfl)]; rfl), ss_rt (by rw [if_t (by rfl), one_st]; exact ret_v e)]
      simp [f_rt, needB, bk]
  | .bin w x y, h, hs, t, k, ht, hk => by
    simp only [Ask.size] at hk hs
    have lx := tx_small h.2.1 (by omega)
    have ly := tx_small h.2.2 (by omega)
    obtain ⟨m, rfl⟩ : ∃ m, k = m + 1 := ⟨k - 1, by omega⟩
    have hm : 30 + x.size + y.size ≤ m := by omega
    rw [cf (fn := f35) rfl rfl]
    have hw := h.1
    simp only [JO, List.mem_cons, List.not_mem_nil, or_false] at hw
    have jx : needB 2 x = isOr x := by
      cases x with
      | bin w x' y' =>
        have hw := h.2.1.1
        simp only [JO, List.mem_cons, List.not_mem_nil, or_false] at hw
        rcases hw with rfl | rfl <;> rfl
      | _ => rfl
    have jx1 : needB 1 x = false := by
      cases x with
      | bin w x' y' => simp only [needB]; split <;> rfl
      | _ => rfl
    have jy3 : needB 3 y = isJo y := by
      cases y with
      | bin w x y => simp only [needB, isJo]; split <;> rfl
      | _ => rfl
    have jy2 : needB 2 y = isOr y := by
      cases y with
      | bin w x' y' =>
        have hw := h.2.2.1
        simp only [JO, List.mem_cons, List.not_mem_nil, or_false] at hw
        rcases hw with rfl | rfl <;> rfl
      | _ => rfl
    have b1 := bk_len (isOr x) (tx x)
    have b2 := bk_len (isJo y) (tx y)
    have b3 := bk_len (isOr y) (tx y)
    rcases hw with rfl | rfl
    · have hx := written_law x h.2.1 (by omega) 2 m (by omega) (by omega)
      have hy := written_law y h.2.2 (by omega) 3 m (by omega) (by omega)
      rw [jx] at hx
      rw [jy3] at hy
      obtain ⟨ρ, e⟩ := wt_run m 2 t wAnd x.d y.d _ _ (.inl ⟨rfl, rfl⟩) hx hy (by omega) (by omega)
      show Ev.finish f35 (evSs (callF pr m) f35.body [.val (.tup [.str wAnd, x.d, y.d]), .val (.int t), .none, .none, .none, .none, .none, .none, .none]) = _
      unfold f35
      rw [ss_nx (ρ' := [.val (.tup [.str wAnd, x.d, y.d]), .val (.int t), .val (.str wAnd), .none, .none, .none, .none, .none, .none]) (by rfl), ss_rt (by rw [if_t (by rfl)]; exact e)]
      show R.ok _ = R.ok (Kd.v, D.str (bk (needB t (.bin wAnd x y)) (tx (.bin wAnd x y))), _)
      rw [tx_and]
      rfl
    · have hx := written_law x h.2.1 (by omega) 1 m (by omega) (by omega)
      have hy := written_law y h.2.2 (by omega) 2 m (by omega) (by omega)
      rw [jx1] at hx
      rw [jy2] at hy
      obtain ⟨ρ, e⟩ := wt_run m 1 t wOr x.d y.d _ _ (.inr ⟨rfl, rfl⟩) hx hy (by simp only [bk]; simp; omega) (by omega)
      show Ev.finish f35 (evSs (callF pr m) f35.body [.val (.tup [.str wOr, x.d, y.d]), .val (.int t), .none, .none, .none, .none, .none, .none, .none]) = _
      unfold f35
      rw [ss_nx (ρ' := [.val (.tup [.str wOr, x.d, y.d]), .val (.int t), .val (.str wOr), .none, .none, .none, .none, .none, .none]) (by rfl), ss_rt (by rw [if_t (by rfl)]; exact e)]
      show R.ok _ = R.ok (Kd.v, D.str (bk (needB t (.bin wOr x y)) (tx (.bin wOr x y))), _)
      rw [tx_or]
      rfl
end K12
end

section
set_option linter.all false
set_option maxRecDepth 100000
set_option maxHeartbeats 1000000
/-! K12aa: ask_text and bracketed. -/
namespace K12
open Ev
theorem d_shape {a : Ask} (h : a.wf (· ∈ VX)) : ∃ r, a.d = .tup (.str a.hd :: r) := by
  cases a with
  | one w => exact ⟨[], rfl⟩
  | two w v =>
    obtain ⟨d, hd⟩ := Option.isSome_iff_exists.mp h.2.2
    obtain ⟨x, e⟩ := (tab h.1 h.2.1 hd).sh
    exact ⟨[x], by rw [(rl_some hd).2, e]; rfl⟩
  | una w x => exact ⟨[x.d], rfl⟩
  | bin w x y => exact ⟨[x.d, y.d], rfl⟩
theorem hd_jo {a : Ask} (h : a.wf (· ∈ VX)) : decide (a.hd ∈ JO) = isJo a := by
  cases a with
  | one w =>
    have : ∀ w ∈ BA, w ∉ JO := by decide
    exact decide_eq_false (this w h)
  | two w v =>
    have : ∀ w ∈ LK, w ∉ JO := by decide
    exact decide_eq_false (this w h.1)
  | una w x => exact decide_eq_false (AH_JO h.1)
  | bin w x y => exact decide_eq_true h.1
theorem hd_or {a : Ask} (h : a.wf (· ∈ VX)) : decide (a.hd ∈ [wOr]) = isOr a := by
  cases a with
  | one w =>
    have : ∀ w ∈ BA, w ∉ [wOr] := by decide
    exact decide_eq_false (this w h)
  | two w v =>
    have : ∀ w ∈ LK, w ∉ [wOr] := by decide
    exact decide_eq_false (this w h.1)
  | una w x =>
    have : ∀ w ∈ AH, w ∉ [wOr] := by decide
    exact decide_eq_false (this w h.1)
  | bin w x y => simp [Ask.hd, isOr]
/-- BRACKETED -/
theorem bracketed (m : Nat) {x : Ask} (h : x.wf (· ∈ VX)) (ws : List W) (hx : callF pr m 24 [x.d] = .ok (.v, .str (tx x), [])) (lx : (tx x).length ≤ 100000) : callF pr (m + 1) 23 [x.d, .tup (ws.map .str)] = .ok (.v, .str (bk (decide (x.hd ∈ ws)) (tx x)), []) := by
  obtain ⟨r, e⟩ := d_shape h
  rw [e] at hx ⊢
  rw [cf (fn := f23) rfl rfl]
  generalize tx x = T at hx lx ⊢
  have t1 : evS (callF pr m) (.asg (.one 2) (.call 24 (.cons false (.var 0) .nil))) [.val (.tup (.str x.hd :: r)), .val (.tup (ws.map .str)), .none, .none, .none, .none, .none] = .nx [.val (.tup (.str x.hd :: r)), .val (.tup (ws.map .str)), .val (.str T), .none, .none, .none, .none] := by
    rw [s_asg, call1 rfl hx]
    rfl
  have ei : evE (callF pr m) (.idx (.var 0) (.cst (.int 0))) [.val (.tup (.str x.hd :: r)), .val (.tup (ws.map .str)), .val (.str T), .none, .none, .none, .none] = .ok (.v, .str x.hd) := by
    show okV (idxD (.tup (.str x.hd :: r)) (.int (0 + ((0 : Nat) : Int)))) = _
    rw [ix_at (ds := .str x.hd :: r) (j := 0) (d := .str x.hd) rfl]
    rfl
  have ec : evE (callF pr m) (.cmp .isin (.idx (.var 0) (.cst (.int 0))) (.var 1)) [.val (.tup (.str x.hd :: r)), .val (.tup (ws.map .str)), .val (.str T), .none, .none, .none, .none] = .ok (.v, .bl (decide (x.hd ∈ ws))) := by
    rw [e_cmp, ei]
    show (match cmpD .isin (.str x.hd) (.tup (ws.map .str)) with | some r => R.ok (Kd.v, D.bl r) | none => .stuck) = _
    rw [isin_tup]
  show Ev.finish f23 (evSs (callF pr m) (.cons (.asg (.one 2) (.call 24 (.cons false (.var 0) .nil))) (.cons (.ret (.ite (.cmp .isin (.idx (.var 0) (.cst (.int 0))) (.var 1)) (.bin .add (.bin .add (.cst (.str [40])) (.var 2)) (.cst (.str [41]))) (.var 2))) .nil)) [.val (.tup (.str x.hd :: r)), .val (.tup (ws.map .str)), .none, .none, .none, .none, .none]) = _
  have er : evE (callF pr m) (.ite (.cmp .isin (.idx (.var 0) (.cst (.int 0))) (.var 1)) (.bin .add (.bin .add (.cst (.str [40])) (.var 2)) (.cst (.str [41]))) (.var 2)) [.val (.tup (.str x.hd :: r)), .val (.tup (ws.map .str)), .val (.str T), .none, .none, .none, .none] = .ok (.v, .str (bk (decide (x.hd ∈ ws)) T)) := by
    rw [e_ite, ec]
    cases decide (x.hd ∈ ws) with
    | true =>
      have := eadd (eadd (show evE (callF pr m) (.cst (.str [40])) [.val (.tup (.str x.hd :: r)), .val (.tup (ws.map .str)), .val (.str T), .none, .none, .none, .none] = _ from rfl) (show evE (callF pr m) (.var 2) _ = .ok (.v, .str T) from rfl) (by simp; omega)) (show evE (callF pr m) (.cst (.str [41])) _ = _ from rfl) (by simp; omega)
      show evE (callF pr m) (.bin .add (.bin .add (.cst (.str [40])) (.var 2)) (.cst (.str [41]))) _ = _
      rw [this]
      rfl
    | false => rfl
  rw [ss_nx t1, one_st, ret_v er]
  rfl
abbrev TS (d : D) (w : W) : List Slot := [.val d, .val (.str w), .none, .none, .none, .none]
/-- ASK_TEXT -/
theorem ask_text : ∀ (a : Ask), a.wf (· ∈ VX) → a.size ≤ 1000 → ∀ k, 30 + 2 * a.size ≤ k → callF pr k 24 [a.d] = .ok (.v, .str (tx a), [])
  | .one w, h, hs, k, hk => by
    rw [tx_one]
    exact (bar h).tx k (by omega)
  | .two w v, h, hs, k, hk => by
    obtain ⟨d, hd⟩ := Option.isSome_iff_exists.mp h.2.2
    rw [(rl_some hd).2, tx_two]
    exact (tab h.1 h.2.1 hd).tx k (by omega)
  | .una w x, h, hs, k, hk => by
    simp only [Ask.size] at hk hs
    have lx := tx_small h.2 (by omega)
    obtain ⟨m, rfl⟩ : ∃ m, k = m + 2 := ⟨k - 2, by omega⟩
    rw [cf (fn := f24) rfl rfl]
    have hx := bracketed m h.2 JO (ask_text x h.2 (by omega) m (by omega)) (by omega)
    rw [hd_jo h.2] at hx
    have hw := h.1
    have lb := bk_len (isJo x) (tx x)
    simp only [AH, List.mem_cons, List.not_mem_nil, or_false] at hw
    rw [tx_una]
    rcases hw with rfl | rfl
    · have ex : evE (callF pr (m + 1)) (.call 23 (.cons false (.idx (.var 0) (.cst (.int 1))) (.cons false (.cst (.tup [.str [97, 110, 100], .str [111, 114]])) .nil))) (TS (.tup [.str [110, 111, 116], x.d]) [110, 111, 116]) = .ok (.v, .str (bk (isJo x) (tx x))) := call2 rfl rfl hx
      have e := eadd (eadd (show evE (callF pr (m + 1)) (.var 1) (TS (.tup [.str [110, 111, 116], x.d]) [110, 111, 116]) = _ from rfl) (show evE (callF pr (m + 1)) (.cst (.str [32])) _ = _ from rfl) (by simp)) ex (by simp; omega)
      show Ev.finish f24 (evSs (callF pr (m + 1)) f24.body [.val (.tup [.str [110, 111, 116], x.d]), .none, .none, .none, .none, .none]) = _
      unfold f24
      rw [ss_nx (ρ' := TS (.tup [.str [110, 111, 116], x.d]) [110, 111, 116]) (by rfl), ss_nx (ρ' := TS (.tup [.str [110, 111, 116], x.d]) [110, 111, 116]) (by rw [if_f (by rfl)]; rfl), ss_rt (by rw [if_t (by rfl), one_st]; exact ret_v e)]
      simp [f_rt]
    · have ex : evE (callF pr (m + 1)) (.call 23 (.cons false (.idx (.var 0) (.cst (.int 1))) (.cons false (.cst (.tup [.str [97, 110, 100], .str [111, 114]])) .nil))) (TS (.tup [.str [110, 101, 101, 100, 115], x.d]) [110, 101, 101, 100, 115]) = .ok (.v, .str (bk (isJo x) (tx x))) := call2 rfl rfl hx
      have e := eadd (eadd (show evE (callF pr (m + 1)) (.var 1) (TS (.tup [.str [110, 101, 101, 100, 115], x.d]) [110, 101, 101, 100, 115]) = _ from rfl) (show evE (callF pr (m + 1)) (.cst (.str [32])) _ = _ from rfl) (by simp)) ex (by simp; omega)
      show Ev.finish f24 (evSs (callF pr (m + 1)) f24.body [.val (.tup [.str [110, 101, 101, 100, 115], x.d]), .none, .none, .none, .none, .none]) = _
      unfold f24
      rw [ss_nx (ρ' := TS (.tup [.str [110, 101, 101, 100, 115], x.d]) [110, 101, 101, 100, 115]) (by rfl), ss_nx (ρ' := TS (.tup [.str [110, 101, 101, 100, 115], x.d]) [110, 101, 101, 100, 115]) (by rw [if_f (by rfl)]; rfl), ss_rt (by rw [if_t (by rfl), one_st]; exact ret_v e)]
      simp [f_rt]
  | .bin w x y, h, hs, k, hk => by
    simp only [Ask.size] at hk hs
    have lx := tx_small h.2.1 (by omega)
    have ly := tx_small h.2.2 (by omega)
    obtain ⟨m, rfl⟩ : ∃ m, k = m + 2 := ⟨k - 2, by omega⟩
    rw [cf (fn := f24) rfl rfl]
    have ax := ask_text x h.2.1 (by omega) m (by omega)
    have ax1 := ask_text x h.2.1 (by omega) (m + 1) (by omega)
    have ay := ask_text y h.2.2 (by omega) m (by omega)
    have xo := bracketed m h.2.1 [wOr] ax (by omega)
    have yj := bracketed m h.2.2 JO ay (by omega)
    have yo := bracketed m h.2.2 [wOr] ay (by omega)
    rw [hd_or h.2.1] at xo
    rw [hd_jo h.2.2] at yj
    rw [hd_or h.2.2] at yo
    have b1 := bk_len (isOr x) (tx x)
    have b2 := bk_len (isJo y) (tx y)
    have b3 := bk_len (isOr y) (tx y)
    have hw := h.1
    simp only [JO, List.mem_cons, List.not_mem_nil, or_false] at hw
    have tor : ∀ ρ, evE (callF pr (m + 1)) (.tup (.cons false (.cst (.str [111, 114])) .nil)) ρ = .ok (.v, .tup [.str [111, 114]]) := fun ρ => by
      rw [e_tup]
      simp only [es_cons, es_nil, e_cst, b_ok, st_f, List.cons_append, List.nil_append, so_v, so_nil, List.length_cons, List.length_nil]
      rw [if_pos (by decide)]
    rcases hw with rfl | rfl
    · have eX : evE (callF pr (m + 1)) (.call 23 (.cons false (.idx (.var 0) (.cst (.int 1))) (.cons false (.tup (.cons false (.cst (.str [111, 114])) .nil)) .nil))) (TS (.tup [.str [97, 110, 100], x.d, y.d]) [97, 110, 100]) = .ok (.v, .str (bk (isOr x) (tx x))) := call2 rfl (tor _) xo
      have eY : evE (callF pr (m + 1)) (.call 23 (.cons false (.idx (.var 0) (.cst (.int 2))) (.cons false (.cst (.tup [.str [97, 110, 100], .str [111, 114]])) .nil))) (TS (.tup [.str [97, 110, 100], x.d, y.d]) [97, 110, 100]) = .ok (.v, .str (bk (isJo y) (tx y))) := call2 rfl rfl yj
      have e := eadd (eadd eX (show evE (callF pr (m + 1)) (.cst (.str [32, 97, 110, 100, 32])) _ = _ from rfl) (by simp; omega)) eY (by simp; omega)
      show Ev.finish f24 (evSs (callF pr (m + 1)) f24.body [.val (.tup [.str [97, 110, 100], x.d, y.d]), .none, .none, .none, .none, .none]) = .ok (.v, .str (tx (.bin wAnd x y)), [])
      rw [tx_and]
      unfold f24
      rw [ss_nx (ρ' := TS (.tup [.str [97, 110, 100], x.d, y.d]) [97, 110, 100]) (by rfl), ss_nx (ρ' := TS (.tup [.str [97, 110, 100], x.d, y.d]) [97, 110, 100]) (by rw [if_f (by rfl)]; rfl), ss_nx (ρ' := TS (.tup [.str [97, 110, 100], x.d, y.d]) [97, 110, 100]) (by rw [if_f (by rfl)]; rfl), ss_rt (by rw [if_t (by rfl), one_st]; exact ret_v e)]
      simp [f_rt]
    · have eX : evE (callF pr (m + 1)) (.call 24 (.cons false (.idx (.var 0) (.cst (.int 1))) .nil)) (TS (.tup [.str [111, 114], x.d, y.d]) [111, 114]) = .ok (.v, .str (tx x)) := call1 rfl ax1
      have eY : evE (callF pr (m + 1)) (.call 23 (.cons false (.idx (.var 0) (.cst (.int 2))) (.cons false (.tup (.cons false (.cst (.str [111, 114])) .nil)) .nil))) (TS (.tup [.str [111, 114], x.d, y.d]) [111, 114]) = .ok (.v, .str (bk (isOr y) (tx y))) := call2 rfl (tor _) yo
      have e := eadd (eadd eX (show evE (callF pr (m + 1)) (.cst (.str [32, 111, 114, 32])) _ = _ from rfl) (by simp; omega)) eY (by simp; omega)
      show Ev.finish f24 (evSs (callF pr (m + 1)) f24.body [.val (.tup [.str [111, 114], x.d, y.d]), .none, .none, .none, .none, .none]) = .ok (.v, .str (tx (.bin wOr x y)), [])
      rw [tx_or]
      unfold f24
      rw [ss_nx (ρ' := TS (.tup [.str [111, 114], x.d, y.d]) [111, 114]) (by rfl), ss_nx (ρ' := TS (.tup [.str [111, 114], x.d, y.d]) [111, 114]) (by rw [if_f (by rfl)]; rfl), ss_nx (ρ' := TS (.tup [.str [111, 114], x.d, y.d]) [111, 114]) (by rw [if_f (by rfl)]; rfl), ss_nx (ρ' := TS (.tup [.str [111, 114], x.d, y.d]) [111, 114]) (by rw [if_f (by rfl)]; rfl), ss_rt (by rw [if_t (by rfl), one_st]; exact ret_v e)]
      simp [f_rt]
end K12
end

section
set_option linter.all false
set_option maxRecDepth 100000
set_option maxHeartbeats 1000000
/-! K12ab: as_ask gives an ask as it is; written. -/
namespace K12
open Ev
theorem as_tuple (m : Nat) (ds : List D) : callF pr (m + 1) 2 [.tup ds] = .ok (.v, .tup ds, []) := by
  rw [cf (fn := f2) rfl rfl]
  rfl
/-- what stands behind an ask's word -/
def kids : Ask → List Ask
  | .una _ x => [x]
  | .bin _ x y => [x, y]
  | _ => []
def sizes (st : List Ask) : Nat := (st.map Ask.size).sum
theorem hd_ah {a : Ask} (h : a.wf (· ∈ VX)) : decide (a.hd ∈ AH) = (match a with | .una _ _ => true | _ => false) := by
  cases a with
  | one w =>
    have : ∀ w ∈ BA, w ∉ AH := by decide
    exact decide_eq_false (this w h)
  | two w v =>
    have : ∀ w ∈ LK, w ∉ AH := by decide
    exact decide_eq_false (this w h.1)
  | una w x => exact decide_eq_true h.1
  | bin w x y =>
    have : ∀ w ∈ JO, w ∉ AH := by decide
    exact decide_eq_false (this w h.1)
abbrev SI : S := (.ifS (.or (.cmp .isin (.idx (.var 3) (.cst (.int 0))) (.cst (.tup [.str [110, 111, 116], .str [110, 101, 101, 100, 115]]))) (.cmp .isin (.idx (.var 3) (.cst (.int 0))) (.cst (.tup [.str [97, 110, 100], .str [111, 114]])))) (.cons (.ifS (.cmp .ne (.blt .len (.cons false (.var 3) .nil)) (.ite (.cmp .isin (.idx (.var 3) (.cst (.int 0))) (.cst (.tup [.str [110, 111, 116], .str [110, 101, 101, 100, 115]]))) (.cst (.int 2)) (.cst (.int 3)))) (.cons (.ret (.cst (.bl false))) .nil) .nil) (.cons (.ext 1 (.slc (.var 3) (.cst (.int 1)) .nope)) .nil)) .nil)
abbrev SQ : S := (.ifS (.or (.cmp .is (.var 3) (.cst (.non))) (.or (.cmp .eq (.blt .len (.cons false (.var 3) .nil)) (.cst (.int 0))) (.or (.not (.isi (.idx (.var 3) (.cst (.int 0))) [.tstr])) (.cmp .gt (.var 2) (.cst (.int 60)))))) (.cons (.ret (.cst (.bl false))) .nil) .nil)
abbrev SB : Ss := (.cons (.asgM 3 (.call1 2 (.pop 1))) (.cons (.aug 2 .add (.cst (.int 1))) (.cons SQ (.cons SI .nil))))
def lA (st : List Ask) : D := .lst (st.reverse.map Ask.d)
abbrev SS (d0 : D) (st : List Ask) (m : Nat) (s3 : Slot) : List Slot := [.val d0, .own (lA st), .val (.int m), s3, .none, .none, .none, .none]
theorem e_hd {cl : Cl} (d0 : D) (L : D) (m : Int) (w : W) (r : List D) : evE cl (.idx (.var 3) (.cst (.int 0))) [.val d0, .own L, .val (.int m), .val (.tup (.str w :: r)), .none, .none, .none, .none] = .ok (.v, .str w) := by
  show okV (idxD (.tup (.str w :: r)) (.int (0 + ((0 : Nat) : Int)))) = _
  rw [ix_at (ds := .str w :: r) (j := 0) (d := .str w) rfl]
  rfl
theorem e_inA {cl : Cl} (d0 : D) (L : D) (m : Int) (w : W) (r : List D) : evE cl (.cmp .isin (.idx (.var 3) (.cst (.int 0))) (.cst (.tup [.str [110, 111, 116], .str [110, 101, 101, 100, 115]]))) [.val d0, .own L, .val (.int m), .val (.tup (.str w :: r)), .none, .none, .none, .none] = .ok (.v, .bl (decide (w ∈ AH))) := by
  rw [e_cmp, e_hd]
  show (match cmpD .isin (.str w) (.tup (AH.map .str)) with | some r => R.ok (Kd.v, D.bl r) | none => .stuck) = _
  rw [isin_tup]
theorem e_inJ {cl : Cl} (d0 : D) (L : D) (m : Int) (w : W) (r : List D) : evE cl (.cmp .isin (.idx (.var 3) (.cst (.int 0))) (.cst (.tup [.str [97, 110, 100], .str [111, 114]]))) [.val d0, .own L, .val (.int m), .val (.tup (.str w :: r)), .none, .none, .none, .none] = .ok (.v, .bl (decide (w ∈ JO))) := by
  rw [e_cmp, e_hd]
  show (match cmpD .isin (.str w) (.tup (JO.map .str)) with | some r => R.ok (Kd.v, D.bl r) | none => .stuck) = _
  rw [isin_tup]
theorem sq_run {cl : Cl} (d0 : D) (L : D) (m : Nat) (hm : m ≤ 60) (w : W) (r : List D) : evS cl SQ [.val d0, .own L, .val (.int m), .val (.tup (.str w :: r)), .none, .none, .none, .none] = .nx [.val d0, .own L, .val (.int m), .val (.tup (.str w :: r)), .none, .none, .none, .none] := by
  have a1 : evE cl (.cmp .is (.var 3) (.cst (.non))) [.val d0, .own L, .val (.int m), .val (.tup (.str w :: r)), .none, .none, .none, .none] = .ok (.v, .bl false) := rfl
  have a2 : evE cl (.cmp .eq (.blt .len (.cons false (.var 3) .nil)) (.cst (.int 0))) [.val d0, .own L, .val (.int m), .val (.tup (.str w :: r)), .none, .none, .none, .none] = .ok (.v, .bl false) := by
    have : evE cl (.blt .len (.cons false (.var 3) .nil)) [.val d0, .own L, .val (.int m), .val (.tup (.str w :: r)), .none, .none, .none, .none] = .ok (.v, .int (D.str w :: r).length) := rfl
    rw [e_cmp, this]
    have h : ((((D.str w :: r).length : Nat) : Int) == 0) = false := by simp; omega
    simp only [b_ok, e_cst, eq_int, h]
  have a3 : evE cl (.not (.isi (.idx (.var 3) (.cst (.int 0))) [.tstr])) [.val d0, .own L, .val (.int m), .val (.tup (.str w :: r)), .none, .none, .none, .none] = .ok (.v, .bl false) := by
    rw [e_not, e_isi, e_hd]
    rfl
  have a4 : evE cl (.cmp .gt (.var 2) (.cst (.int 60))) [.val d0, .own L, .val (.int m), .val (.tup (.str w :: r)), .none, .none, .none, .none] = .ok (.v, .bl false) := by
    show R.ok (Kd.v, D.bl (decide ((60 : Int) < (m : Int)))) = _
    have : ¬ (60 : Int) < (m : Int) := by omega
    rw [decide_eq_false this]
  have c : truthR (evE cl (.or (.cmp .is (.var 3) (.cst (.non))) (.or (.cmp .eq (.blt .len (.cons false (.var 3) .nil)) (.cst (.int 0))) (.or (.not (.isi (.idx (.var 3) (.cst (.int 0))) [.tstr])) (.cmp .gt (.var 2) (.cst (.int 60)))))) [.val d0, .own L, .val (.int m), .val (.tup (.str w :: r)), .none, .none, .none, .none]) = .ok false := by
    rw [e_or, a1]
    simp only [b_ok, tr_bl]
    rw [e_or, a2]
    simp only [b_ok, tr_bl]
    rw [e_or, a3]
    simp only [b_ok, tr_bl]
    rw [a4]
    rfl
  rw [if_f c]
  rfl
theorem cut1 (d : D) (r : List D) : cutL (d :: r) (some 1) none = r := by
  unfold cutL sEnd
  simp
theorem small_turn (k : Nat) (d0 : D) {a : Ask} (h : a.wf (· ∈ VX)) (st : List Ask) (m : Nat) (hm : m < 60) (s3 : Slot) (hz : st.length ≤ 100000) : ∃ s3', evSs (callF pr (k + 1)) SB (SS d0 (a :: st) m s3) = .nx (SS d0 ((kids a).reverse ++ st) (m + 1) s3') := by
  obtain ⟨r, e⟩ := d_shape h
  have el : lA (a :: st) = .lst (st.reverse.map Ask.d ++ [a.d]) := by simp [lA]
  have t1 : evS (callF pr (k + 1)) (.asgM 3 (.call1 2 (.pop 1))) (SS d0 (a :: st) m s3) = .nx [.val d0, .own (lA st), .val (.int m), .val a.d, .none, .none, .none, .none] := by
    unfold SS
    rw [el, e, s_asgM, m_call1, m_pop]
    simp only [List.getElem?_cons_succ, List.getElem?_cons_zero, List.getLast?_append, List.getLast?_singleton, Option.some_or, b_ok]
    rw [as_tuple]
    simp [lA]
  have t2 : evS (callF pr (k + 1)) (.aug 2 .add (.cst (.int 1))) [.val d0, .own (lA st), .val (.int m), .val a.d, .none, .none, .none, .none] = .nx [.val d0, .own (lA st), .val (.int (m + 1 : Nat)), .val a.d, .none, .none, .none, .none] := rfl
  have t3 := sq_run (cl := callF pr (k + 1)) d0 (lA st) (m + 1) (by omega) a.hd r
  rw [← e] at t3
  refine ⟨.val a.d, ?_⟩
  rw [ss_nx t1, ss_nx t2, ss_nx t3, one_st]
  have cA := e_inA (cl := callF pr (k + 1)) d0 (lA st) (m + 1 : Nat) a.hd r
  have cJ := e_inJ (cl := callF pr (k + 1)) d0 (lA st) (m + 1 : Nat) a.hd r
  rw [← e] at cA cJ
  rw [hd_ah h] at cA
  rw [hd_jo h] at cJ
  have ext : ∀ ks : List Ask, a.d = .tup (.str a.hd :: ks.map Ask.d) → ks.length ≤ 2 → evS (callF pr (k + 1)) (.ext 1 (.slc (.var 3) (.cst (.int 1)) .nope)) [.val d0, .own (lA st), .val (.int (m + 1 : Nat)), .val a.d, .none, .none, .none, .none] = .nx (SS d0 (ks.reverse ++ st) (m + 1) (.val a.d)) := by
    intro ks ek hk
    have es : evE (callF pr (k + 1)) (.slc (.var 3) (.cst (.int 1)) .nope) [.val d0, .own (lA st), .val (.int (m + 1 : Nat)), .val a.d, .none, .none, .none, .none] = .ok (.v, .tup (ks.map Ask.d)) := by
      show okK (slcD a.d (some 1) none) = _
      rw [ek]
      show okK (some (Kd.v, D.tup (cutL (.str a.hd :: ks.map Ask.d) (some 1) none))) = _
      rw [cut1]
      rfl
    have hl : (st.reverse.map Ask.d).length + (ks.map Ask.d).length ≤ szl := by
      simp only [List.length_map, List.length_reverse]; unfold szl; omega
    rw [s_ext]
    show (match some (st.reverse.map Ask.d) with
      | some ds => Out.of (evE (callF pr (k + 1)) (.slc (.var 3) (.cst (.int 1)) .nope) [.val d0, .own (lA st), .val (.int (m + 1 : Nat)), .val a.d, .none, .none, .none, .none]) fun p => (match listOf p.2 with
          | some es => if ds.length + es.length ≤ szl then Out.nx (List.set ([.val d0, .own (lA st), .val (.int (m + 1 : Nat)), .val a.d, .none, .none, .none, .none] : List Slot) 1 (.own (.lst (ds ++ es)))) else .stuck
          | none => .stuck)
      | none => .stuck) = _
    rw [es]
    simp only [o_ok, listOf, if_pos hl]
    simp [lA]
  cases a with
  | one w =>
    have c : truthR (evE (callF pr (k + 1)) (.or (.cmp .isin (.idx (.var 3) (.cst (.int 0))) (.cst (.tup [.str [110, 111, 116], .str [110, 101, 101, 100, 115]]))) (.cmp .isin (.idx (.var 3) (.cst (.int 0))) (.cst (.tup [.str [97, 110, 100], .str [111, 114]])))) [.val d0, .own (lA st), .val (.int (m + 1 : Nat)), .val (Ask.one w).d, .none, .none, .none, .none]) = .ok false := by
      rw [e_or, cA]
      simp only [b_ok, tr_bl]
      rw [cJ]
      rfl
    rw [if_f c]
    rfl
  | two w v =>
    have c : truthR (evE (callF pr (k + 1)) (.or (.cmp .isin (.idx (.var 3) (.cst (.int 0))) (.cst (.tup [.str [110, 111, 116], .str [110, 101, 101, 100, 115]]))) (.cmp .isin (.idx (.var 3) (.cst (.int 0))) (.cst (.tup [.str [97, 110, 100], .str [111, 114]])))) [.val d0, .own (lA st), .val (.int (m + 1 : Nat)), .val (Ask.two w v).d, .none, .none, .none, .none]) = .ok false := by
      rw [e_or, cA]
      simp only [b_ok, tr_bl]
      rw [cJ]
      rfl
    rw [if_f c]
    rfl
  | una w x =>
    have c : truthR (evE (callF pr (k + 1)) (.or (.cmp .isin (.idx (.var 3) (.cst (.int 0))) (.cst (.tup [.str [110, 111, 116], .str [110, 101, 101, 100, 115]]))) (.cmp .isin (.idx (.var 3) (.cst (.int 0))) (.cst (.tup [.str [97, 110, 100], .str [111, 114]])))) [.val d0, .own (lA st), .val (.int (m + 1 : Nat)), .val (Ask.una w x).d, .none, .none, .none, .none]) = .ok true := by
      rw [e_or, cA]
      rfl
    have c2 : truthR (evE (callF pr (k + 1)) (.cmp .ne (.blt .len (.cons false (.var 3) .nil)) (.ite (.cmp .isin (.idx (.var 3) (.cst (.int 0))) (.cst (.tup [.str [110, 111, 116], .str [110, 101, 101, 100, 115]]))) (.cst (.int 2)) (.cst (.int 3)))) [.val d0, .own (lA st), .val (.int (m + 1 : Nat)), .val (Ask.una w x).d, .none, .none, .none, .none]) = .ok false := by
      rw [e_cmp, e_ite, cA]
      rfl
    rw [if_t c, ss_nx (ρ' := [.val d0, .own (lA st), .val (.int (m + 1 : Nat)), .val (Ask.una w x).d, .none, .none, .none, .none]) (by rw [if_f c2]; rfl), one_st]
    exact ext [x] rfl (show 1 ≤ 2 by decide)
  | bin w x y =>
    have c : truthR (evE (callF pr (k + 1)) (.or (.cmp .isin (.idx (.var 3) (.cst (.int 0))) (.cst (.tup [.str [110, 111, 116], .str [110, 101, 101, 100, 115]]))) (.cmp .isin (.idx (.var 3) (.cst (.int 0))) (.cst (.tup [.str [97, 110, 100], .str [111, 114]])))) [.val d0, .own (lA st), .val (.int (m + 1 : Nat)), .val (Ask.bin w x y).d, .none, .none, .none, .none]) = .ok true := by
      rw [e_or, cA]
      simp only [b_ok, tr_bl]
      rw [cJ]
      rfl
    have c2 : truthR (evE (callF pr (k + 1)) (.cmp .ne (.blt .len (.cons false (.var 3) .nil)) (.ite (.cmp .isin (.idx (.var 3) (.cst (.int 0))) (.cst (.tup [.str [110, 111, 116], .str [110, 101, 101, 100, 115]]))) (.cst (.int 2)) (.cst (.int 3)))) [.val d0, .own (lA st), .val (.int (m + 1 : Nat)), .val (Ask.bin w x y).d, .none, .none, .none, .none]) = .ok false := by
      rw [e_cmp, e_ite, cA]
      rfl
    rw [if_t c, ss_nx (ρ' := [.val d0, .own (lA st), .val (.int (m + 1 : Nat)), .val (Ask.bin w x y).d, .none, .none, .none, .none]) (by rw [if_f c2]; rfl), one_st]
    exact ext [x, y] rfl (show 2 ≤ 2 by decide)
theorem kids_wf {a : Ask} (h : a.wf (· ∈ VX)) : ∀ x ∈ kids a, x.wf (· ∈ VX) := by
  cases a with
  | una w x => intro y hy; rw [List.mem_singleton.mp hy]; exact h.2
  | bin w x y =>
    intro z hz
    rcases List.mem_cons.mp hz with rfl | hz
    · exact h.2.1
    · rw [List.mem_singleton.mp hz]; exact h.2.2
  | _ => intro y hy; cases hy
theorem kids_size (a : Ask) : sizes (kids a).reverse + 1 = a.size := by
  cases a <;> simp [sizes, kids, Ask.size] <;> omega
theorem sizes_app (a b : List Ask) : sizes (a ++ b) = sizes a + sizes b := by simp [sizes]
theorem sizes_len : ∀ st : List Ask, st.length ≤ sizes st
  | [] => by decide
  | a :: st => by
    have := sizes_len st
    have := size_pos a
    simp only [sizes, List.map_cons, List.sum_cons, List.length_cons] at *
    omega
theorem small_loop (k : Nat) (d0 : D) : ∀ (n : Nat) (st : List Ask) (m : Nat) (s3 : Slot), (∀ x ∈ st, x.wf (· ∈ VX)) → sizes st < n → m + sizes st ≤ 60 →
    ∃ m' s3', loopW (callF pr (k + 1)) (.var 1) SB n (SS d0 st m s3) = .nx (SS d0 [] m' s3') := by
  intro n
  induction n with
  | zero => intro st m s3 _ h; omega
  | succ n ih =>
    intro st m s3 hw hn hm
    cases st with
    | nil =>
      refine ⟨m, s3, ?_⟩
      rw [lw_f (by rfl)]
    | cons a st =>
      have c : truthR (evE (callF pr (k + 1)) (.var 1) (SS d0 (a :: st) m s3)) = .ok true := by
        have el : lA (a :: st) = .lst (st.reverse.map Ask.d ++ [a.d]) := by simp [lA]
        show truthR (.ok (.b, lA (a :: st))) = _
        rw [el]
        simp
      have ha := size_pos a
      have hs : sizes (a :: st) = a.size + sizes st := by simp [sizes]
      have hl := sizes_len st
      obtain ⟨s3', e⟩ := small_turn k d0 (hw a (by simp)) st m (by omega) s3 (by omega)
      have hk := kids_size a
      rw [lw_t c, e]
      exact ih _ _ _ (fun x hx => by
        rcases List.mem_append.mp hx with hx | hx
        · exact kids_wf (hw a (by simp)) x (List.mem_reverse.mp hx)
        · exact hw x (by simp [hx])) (by rw [sizes_app]; omega) (by rw [sizes_app]; omega)
/-- IS_SMALL -/
theorem is_small (k : Nat) {a : Ask} (h : a.wf (· ∈ VX)) (hs : a.size ≤ 60) : callF pr (k + 2) 20 [a.d] = .ok (.v, .bl true, []) := by
  rw [cf (fn := f20) rfl rfl]
  obtain ⟨m', s3', e⟩ := small_loop k a.d wfuel [a] 0 .none (fun x hx => by rw [List.mem_singleton.mp hx]; exact h) (by
    have : sizes [a] = a.size := by simp [sizes]
    have := wf_big
    omega) (by
    have : sizes [a] = a.size := by simp [sizes]
    omega)
  show Ev.finish f20 (evSs (callF pr (k + 1)) (.cons (.asg (.one 1) (.lst (.cons false (.var 0) .nil))) (.cons (.asg (.one 2) (.cst (.int 0))) (.cons (.whl (.var 1) SB) (.cons (.ret (.cst (.bl true))) .nil)))) [.val a.d, .none, .none, .none, .none, .none, .none, .none]) = _
  rw [ss_nx (ρ' := [.val a.d, .own (lA [a]), .none, .none, .none, .none, .none, .none]) (by rfl), ss_nx (ρ' := SS a.d [a] 0 .none) (by rfl), ss_nx (ρ' := SS a.d [] m' s3') (by rw [s_whl]; exact e), one_st]
  rfl
/-! ### plain_rows -/
abbrev PL (d0 d1 : D) (s2 : Slot) : List Slot := [.val d0, .val d1, s2, .none, .none, .none, .none]
theorem pl_hd {cl : Cl} (d0 : D) (w : W) (r : List D) (s2 : Slot) : evE cl (.idx (.var 1) (.cst (.int 0))) (PL d0 (.tup (.str w :: r)) s2) = .ok (.v, .str w) := by
  show okV (idxD (.tup (.str w :: r)) (.int (0 + ((0 : Nat) : Int)))) = _
  rw [ix_at (ds := .str w :: r) (j := 0) (d := .str w) rfl]
  rfl
theorem pl_cond {cl : Cl} (d0 : D) (w : W) (r : List D) : truthR (evE cl (.and (.cmp .notin (.idx (.var 1) (.cst (.int 0))) (.cst (.tup [.str [110, 111, 116], .str [110, 101, 101, 100, 115]]))) (.cmp .notin (.idx (.var 1) (.cst (.int 0))) (.cst (.tup [.str [97, 110, 100], .str [111, 114]])))) (PL d0 (.tup (.str w :: r)) .none)) = .ok (!decide (w ∈ AH) && !decide (w ∈ JO)) := by
  have a1 : evE cl (.cmp .notin (.idx (.var 1) (.cst (.int 0))) (.cst (.tup [.str [110, 111, 116], .str [110, 101, 101, 100, 115]]))) (PL d0 (.tup (.str w :: r)) .none) = .ok (.v, .bl (!decide (w ∈ AH))) := by
    rw [e_cmp, pl_hd]
    show (match cmpD .notin (.str w) (.tup (AH.map .str)) with | some r => R.ok (Kd.v, D.bl r) | none => .stuck) = _
    rw [notin_tup]
  have a2 : evE cl (.cmp .notin (.idx (.var 1) (.cst (.int 0))) (.cst (.tup [.str [97, 110, 100], .str [111, 114]]))) (PL d0 (.tup (.str w :: r)) .none) = .ok (.v, .bl (!decide (w ∈ JO))) := by
    rw [e_cmp, pl_hd]
    show (match cmpD .notin (.str w) (.tup (JO.map .str)) with | some r => R.ok (Kd.v, D.bl r) | none => .stuck) = _
    rw [notin_tup]
  rw [e_and, a1]
  simp only [b_ok, tr_bl]
  cases decide (w ∈ AH) with
  | true => rfl
  | false =>
    simp only [Bool.not_false]
    rw [a2]
    rfl
theorem stepC_ok {cl : Cl} {own : List Nat} {tg : Tg} {e : E} {ρ ρ' : List Slot} {d x : D} (hs : setTg tg d (wipeS ρ own) = some ρ') (he : evE cl e ρ' = .ok (.v, x)) : stepC cl own tg (.cst (.bl true)) e ρ d = .ok (some x) := by
  unfold stepC
  rw [hs]
  show (evE cl e ρ').bind _ = _
  rw [he]
  rfl
theorem loop_ids {cl : Cl} (ρ : List Slot) (c e : E) (own : List Nat) (tg : Tg) : ∀ ds : List D, (∀ d ∈ ds, stepC cl own tg c e ρ d = .ok (some d)) → loopC cl own tg c e ρ ds = .ok ds
  | [], _ => rfl
  | d :: ds, h => by
    rw [loopC_cons, h d (List.mem_cons_self ..), loop_ids ρ c e own tg ds fun x hx => h x (List.mem_cons_of_mem _ hx)]
    rfl
theorem loop_f {cl : Cl} (ρ : List Slot) (c e : E) (own : List Nat) (tg : Tg) : ∀ ds : List D, (∀ d ∈ ds, stepC cl own tg c e ρ d = .ok (some (.bl false))) → loopC cl own tg c e ρ ds = .ok (ds.map fun _ => .bl false)
  | [], _ => rfl
  | d :: ds, h => by
    rw [loopC_cons, h d (List.mem_cons_self ..), loop_f ρ c e own tg ds fun x hx => h x (List.mem_cons_of_mem _ hx)]
    rfl
theorem allBl_ds (l : List D) : allBl (l.map fun _ => D.bl false) = some (l.map fun _ => false) := by
  induction l with
  | nil => rfl
  | cons c l ih => simp [allBl, ih]
theorem any_f (l : List D) : (l.map fun _ => false).any id = false := by
  induction l with
  | nil => rfl
  | cons c l ih => simp [ih]
theorem plain_deep (m : Nat) (w : W) (ds : List D) (hw : w ∈ AH ∨ w ∈ JO) (hl : ds.length ≤ 2) (hd : ∀ d ∈ ds, callF pr m 21 [d] = .ok (.v, d, []) ∧ isNonD d = false) (d0 : D) :
    ∃ ρ, evSs (callF pr m) (.cons (.ifS (.and (.cmp .notin (.idx (.var 1) (.cst (.int 0))) (.cst (.tup [.str [110, 111, 116], .str [110, 101, 101, 100, 115]]))) (.cmp .notin (.idx (.var 1) (.cst (.int 0))) (.cst (.tup [.str [97, 110, 100], .str [111, 114]])))) (.cons (.ret (.call 19 (.cons false (.var 1) .nil))) .nil) .nil) (.cons (.asg (.one 2) (.cmpr [4] (.one 4) .seq (.cons false (.slc (.var 1) (.cst (.int 1)) .nope) .nil) (.cst (.bl true)) (.call 21 (.cons false (.var 4) .nil)))) (.cons (.ifS (.blt .any1 (.cons false (.cmpr [4] (.one 4) .seq (.cons false (.var 2) .nil) (.cst (.bl true)) (.cmp .is (.var 4) (.cst (.non)))) .nil)) (.cons (.ret (.cst (.non))) .nil) .nil) (.cons (.ret (.tup (.cons false (.idx (.var 1) (.cst (.int 0))) (.cons true (.var 2) .nil)))) .nil)))) (PL d0 (.tup (.str w :: ds)) .none) = .rt .v (.tup (.str w :: ds)) ρ := by
  have c := pl_cond (cl := callF pr m) d0 w ds
  have hc : (!decide (w ∈ AH) && !decide (w ∈ JO)) = false := by
    rcases hw with hw | hw <;> simp [hw]
  rw [hc] at c
  have hz : ds.length ≤ szl := by unfold szl; omega
  have e1 : evE (callF pr m) (.cmpr [4] (.one 4) .seq (.cons false (.slc (.var 1) (.cst (.int 1)) .nope) .nil) (.cst (.bl true)) (.call 21 (.cons false (.var 4) .nil))) (PL d0 (.tup (.str w :: ds)) .none) = .ok (.f, .lst ds) := by
    have es : evE (callF pr m) (.slc (.var 1) (.cst (.int 1)) .nope) (PL d0 (.tup (.str w :: ds)) .none) = .ok (.v, .tup ds) := by
      show okK (some (Kd.v, D.tup (cutL (.str w :: ds) (some 1) none))) = _
      rw [cut1]
      rfl
    have hr : loopC (callF pr m) [4] (.one 4) (.cst (.bl true)) (.call 21 (.cons false (.var 4) .nil)) (PL d0 (.tup (.str w :: ds)) .none) ds = .ok ds := by
      refine loop_ids _ _ _ _ _ ds fun d hd2 => ?_
      have ec : evE (callF pr m) (.call 21 (.cons false (.var 4) .nil)) [.val d0, .val (.tup (.str w :: ds)), .none, .none, .val d, .none, .none] = .ok (.v, d) := call1 rfl (hd d hd2).1
      exact stepC_ok rfl ec
    rw [e_cmpr, es_cons, es]
    show (match some ds with
      | some ds => (loopC (callF pr m) [4] (.one 4) (.cst (.bl true)) (.call 21 (.cons false (.var 4) .nil)) (PL d0 (.tup (.str w :: ds)) .none) ds).quiet.bind fun r => if ds.length ≤ szl then R.ok (Kd.f, D.lst r) else .stuck
      | none => .stuck) = _
    simp only [hr, q_ok, b_ok, if_pos hz]
  have t2 : evS (callF pr m) (.asg (.one 2) (.cmpr [4] (.one 4) .seq (.cons false (.slc (.var 1) (.cst (.int 1)) .nope) .nil) (.cst (.bl true)) (.call 21 (.cons false (.var 4) .nil)))) (PL d0 (.tup (.str w :: ds)) .none) = .nx (PL d0 (.tup (.str w :: ds)) (.own (.lst ds))) := by
    rw [s_asg, e1]
    rfl
  have c3 : truthR (evE (callF pr m) (.blt .any1 (.cons false (.cmpr [4] (.one 4) .seq (.cons false (.var 2) .nil) (.cst (.bl true)) (.cmp .is (.var 4) (.cst (.non)))) .nil)) (PL d0 (.tup (.str w :: ds)) (.own (.lst ds)))) = .ok false := by
    have hr : loopC (callF pr m) [4] (.one 4) (.cst (.bl true)) (.cmp .is (.var 4) (.cst (.non))) (PL d0 (.tup (.str w :: ds)) (.own (.lst ds))) ds = .ok (ds.map fun _ => .bl false) := by
      refine loop_f _ _ _ _ _ ds fun d hd2 => ?_
      have ec : evE (callF pr m) (.cmp .is (.var 4) (.cst (.non))) [.val d0, .val (.tup (.str w :: ds)), .own (.lst ds), .none, .val d, .none, .none] = .ok (.v, .bl false) := by
        show (match cmpD .is d .non with | some r => R.ok (Kd.v, D.bl r) | none => .stuck) = _
        rw [is_non, (hd d hd2).2]
      exact stepC_ok rfl ec
    have e3 : evE (callF pr m) (.cmpr [4] (.one 4) .seq (.cons false (.var 2) .nil) (.cst (.bl true)) (.cmp .is (.var 4) (.cst (.non)))) (PL d0 (.tup (.str w :: ds)) (.own (.lst ds))) = .ok (.f, .lst (ds.map fun _ => .bl false)) := by
      rw [e_cmpr]
      show (match some ds with
        | some ds => (loopC (callF pr m) [4] (.one 4) (.cst (.bl true)) (.cmp .is (.var 4) (.cst (.non))) (PL d0 (.tup (.str w :: ds)) (.own (.lst ds))) ds).quiet.bind fun r => if ds.length ≤ szl then R.ok (Kd.f, D.lst r) else .stuck
        | none => .stuck) = _
      simp only [hr, q_ok, b_ok, if_pos hz]
    rw [e_blt, es_cons, e3]
    show truthR (okV (bltD .any1 [.lst (ds.map fun _ => .bl false)])) = _
    have : bltD .any1 [.lst (ds.map fun _ => .bl false)] = some (.bl false) := by
      simp only [bltD, allBl_ds, any_f]
    rw [this]
    rfl
  have e4 : evE (callF pr m) (.tup (.cons false (.idx (.var 1) (.cst (.int 0))) (.cons true (.var 2) .nil))) (PL d0 (.tup (.str w :: ds)) (.own (.lst ds))) = .ok (.v, .tup (.str w :: ds)) := by
    have so : ∀ l : List D, solid (l.map fun d => (Kd.v, d)) = some l := fun l => by
      induction l with
      | nil => rfl
      | cons a l ih => simp [ih]
    rw [e_tup, es_cons, pl_hd, es_cons]
    show (match solid ((Kd.v, D.str w) :: (ds.map (fun d => (Kd.v, d)) ++ [])) with | some ds => if ds.length ≤ szl then R.ok (Kd.v, D.tup ds) else .stuck | none => .stuck) = _
    rw [List.append_nil, so_v, so]
    show (if (D.str w :: ds).length ≤ szl then R.ok (Kd.v, D.tup (.str w :: ds)) else .stuck) = _
    rw [if_pos (by simp only [List.length_cons]; unfold szl; omega)]
  refine ⟨PL d0 (.tup (.str w :: ds)) (.own (.lst ds)), ?_⟩
  rw [ss_nx (ρ' := PL d0 (.tup (.str w :: ds)) .none) (by rw [if_f c]; rfl), ss_nx t2, ss_nx (ρ' := PL d0 (.tup (.str w :: ds)) (.own (.lst ds))) (by rw [if_f c3]; rfl), one_st]
  exact ret_v e4
theorem notnon {a : Ask} (h : a.wf (· ∈ VX)) : isNonD a.d = false := by
  obtain ⟨r, e⟩ := d_shape h
  rw [e]; rfl
/-- PLAIN_ROWS -/
theorem plain_rows : ∀ (a : Ask), a.wf (· ∈ VX) → ∀ k, 32 + a.size ≤ k → callF pr k 21 [a.d] = .ok (.v, a.d, []) := by
  have leaf : ∀ (a : Ask), a.wf (· ∈ VX) → (!decide (a.hd ∈ AH) && !decide (a.hd ∈ JO)) = true → ∀ k, 31 ≤ k → callF pr k 19 [a.d] = .ok (.v, a.d, []) → callF pr (k + 1) 21 [a.d] = .ok (.v, a.d, []) := by
    intro a h hc k hk ha
    obtain ⟨r, e⟩ := d_shape h
    obtain ⟨m, rfl⟩ : ∃ m, k = m + 1 := ⟨k - 1, by omega⟩
    rw [e] at ha ⊢
    rw [cf (fn := f21) rfl rfl]
    have c := pl_cond (cl := callF pr (m + 1)) (.tup (.str a.hd :: r)) a.hd r
    rw [hc] at c
    unfold f21
    rw [ss_nx (ρ' := PL (.tup (.str a.hd :: r)) (.tup (.str a.hd :: r)) .none) (by
      rw [s_asg, call1 (d1 := .tup (.str a.hd :: r)) rfl (as_tuple m _)]
      rfl), ss_rt (by rw [if_t c, one_st]; exact ret_v (call1 rfl ha))]
    simp [f_rt]
  intro a
  induction a with
  | one w =>
    intro h k hk
    simp only [Ask.size] at hk
    obtain ⟨m, rfl⟩ : ∃ m, k = m + 1 := ⟨k - 1, by omega⟩
    exact leaf (.one w) h (by rw [hd_ah h, hd_jo h]; rfl) m (by omega) ((bar h).lfv m (by omega))
  | two w v =>
    intro h k hk
    simp only [Ask.size] at hk
    obtain ⟨m, rfl⟩ : ∃ m, k = m + 1 := ⟨k - 1, by omega⟩
    obtain ⟨d, hd⟩ := Option.isSome_iff_exists.mp h.2.2
    refine leaf (.two w v) h (by rw [hd_ah h, hd_jo h]; rfl) m (by omega) ?_
    rw [(rl_some hd).2]
    exact (tab h.1 h.2.1 hd).lfv m (by omega)
  | una w x ih =>
    intro h k hk
    simp only [Ask.size] at hk
    obtain ⟨m, rfl⟩ : ∃ m, k = m + 2 := ⟨k - 2, by omega⟩
    rw [cf (fn := f21) rfl rfl]
    obtain ⟨ρ, e⟩ := plain_deep (m + 1) w [x.d] (.inl h.1) (show 1 ≤ 2 by decide) (fun d hd => by
      rw [List.mem_singleton.mp hd]
      exact ⟨ih h.2 _ (by omega), notnon h.2⟩) (.tup [.str w, x.d])
    unfold f21
    show Ev.finish ⟨1, 0, 7, _⟩ (evSs (callF pr (m + 1)) (.cons (.asg (.one 1) (.call 2 (.cons false (.var 0) .nil))) _) [.val (.tup [.str w, x.d]), .none, .none, .none, .none, .none, .none]) = .ok (.v, .tup [.str w, x.d], [])
    rw [ss_nx (ρ' := PL (.tup [.str w, x.d]) (.tup [.str w, x.d]) .none) (by
      rw [s_asg, call1 (d1 := .tup [.str w, x.d]) rfl (as_tuple m _)]
      rfl), e]
    simp [f_rt]
  | bin w x y ix iy =>
    intro h k hk
    simp only [Ask.size] at hk
    obtain ⟨m, rfl⟩ : ∃ m, k = m + 2 := ⟨k - 2, by omega⟩
    rw [cf (fn := f21) rfl rfl]
    obtain ⟨ρ, e⟩ := plain_deep (m + 1) w [x.d, y.d] (.inr h.1) (show 2 ≤ 2 by decide) (fun d hd => by
      rcases List.mem_cons.mp hd with rfl | hd
      · exact ⟨ix h.2.1 _ (by omega), notnon h.2.1⟩
      · rw [List.mem_singleton.mp hd]
        exact ⟨iy h.2.2 _ (by omega), notnon h.2.2⟩) (.tup [.str w, x.d, y.d])
    unfold f21
    show Ev.finish ⟨1, 0, 7, _⟩ (evSs (callF pr (m + 1)) (.cons (.asg (.one 1) (.call 2 (.cons false (.var 0) .nil))) _) [.val (.tup [.str w, x.d, y.d]), .none, .none, .none, .none, .none, .none]) = .ok (.v, .tup [.str w, x.d, y.d], [])
    rw [ss_nx (ρ' := PL (.tup [.str w, x.d, y.d]) (.tup [.str w, x.d, y.d]) .none) (by
      rw [s_asg, call1 (d1 := .tup [.str w, x.d, y.d]) rfl (as_tuple m _)]
      rfl), e]
    simp [f_rt]
/-- AS_ASK -/
theorem as_ask (k : Nat) {a : Ask} (h : a.wf (· ∈ VX)) (hs : a.size ≤ 60) (hk : 100 ≤ k) : callF pr (k + 1) 22 [a.d] = .ok (.v, a.d, []) := by
  rw [cf (fn := f22) rfl rfl]
  obtain ⟨m, rfl⟩ : ∃ m, k = m + 2 := ⟨k - 2, by omega⟩
  have e1 : evE (callF pr (m + 2)) (.call 20 (.cons false (.var 0) .nil)) [.val a.d, .none, .none, .none, .none] = .ok (.v, .bl true) := call1 rfl (is_small m h hs)
  have e2 : evE (callF pr (m + 2)) (.call 21 (.cons false (.var 0) .nil)) [.val a.d, .none, .none, .none, .none] = .ok (.v, a.d) := call1 rfl (plain_rows a h _ (by omega))
  have e3 : evE (callF pr (m + 2)) (.ite (.call 20 (.cons false (.var 0) .nil)) (.call 21 (.cons false (.var 0) .nil)) (.cst (.non))) [.val a.d, .none, .none, .none, .none] = .ok (.v, a.d) := by
    rw [e_ite, e1]
    exact e2
  show Ev.finish f22 (evSs (callF pr (m + 2)) (.cons (.ret (.ite (.call 20 (.cons false (.var 0) .nil)) (.call 21 (.cons false (.var 0) .nil)) (.cst (.non)))) .nil) [.val a.d, .none, .none, .none, .none]) = _
  rw [one_st, ret_v e3]
  rfl
/-- WRITTEN -/
theorem written (k : Nat) {a : Ask} (h : a.wf (· ∈ VX)) (hs : a.size ≤ 60) (hk : 160 ≤ k) : callF pr (k + 1) 29 [a.d] = .ok (.v, .str (tx a), []) := by
  rw [cf (fn := f29) rfl rfl]
  obtain ⟨m, rfl⟩ : ∃ m, k = m + 1 := ⟨k - 1, by omega⟩
  have e1 : evE (callF pr (m + 1)) (.call 22 (.cons false (.var 0) .nil)) [.val a.d, .none, .none, .none, .none] = .ok (.v, a.d) := call1 rfl (as_ask m h hs (by omega))
  have h0 : callF pr (m + 1) 0 [a.d, .int 1] = .ok (.v, a.d, []) := by
    obtain ⟨r, e⟩ := d_shape h
    rw [e, cf (fn := f0) rfl rfl]
    rfl
  have e2 : evE (callF pr (m + 1)) (.call 0 (.cons false (.call 22 (.cons false (.var 0) .nil)) (.cons false (.cst (.int 1)) .nil))) [.val a.d, .none, .none, .none, .none] = .ok (.v, a.d) := call2 e1 rfl h0
  have e3 : evE (callF pr (m + 1)) (.call 24 (.cons false (.call 0 (.cons false (.call 22 (.cons false (.var 0) .nil)) (.cons false (.cst (.int 1)) .nil))) .nil)) [.val a.d, .none, .none, .none, .none] = .ok (.v, .str (tx a)) := call1 e2 (ask_text a h (by omega) _ (by omega))
  show Ev.finish f29 (evSs (callF pr (m + 1)) (.cons (.ret (.call 24 (.cons false (.call 0 (.cons false (.call 22 (.cons false (.var 0) .nil)) (.cons false (.cst (.int 1)) .nil))) .nil))) .nil) [.val a.d, .none, .none, .none, .none]) = _
  rw [one_st, ret_v e3]
  rfl
end K12
end

section
set_option linter.all false
set_option maxRecDepth 100000
set_option maxHeartbeats 1000000
/-! K12ac: rows with a word turned, put in, left out; what is told of them. -/
namespace K12
open Ev
section
variable {cl : Cl} {ρ : List Slot}
theorem efdiv {e1 e2 : E} {i j : Int} (h1 : evE cl e1 ρ = .ok (.v, .int i)) (h2 : evE cl e2 ρ = .ok (.v, .int j)) (hj : 0 < j ∧ j < 1073741824) : evE cl (.bin .fdiv e1 e2) ρ = .ok (.v, .int (i / j)) := by
  rw [e_bin, h1, b_ok, h2, b_ok]
  show okK (if 0 < j ∧ j < 1073741824 then some (Kd.v, D.int (i / j)) else none) = _
  rw [if_pos hj]
  rfl
theorem emodi {e1 e2 : E} {i j : Int} (h1 : evE cl e1 ρ = .ok (.v, .int i)) (h2 : evE cl e2 ρ = .ok (.v, .int j)) (hj : 0 < j) : evE cl (.bin .mod e1 e2) ρ = .ok (.v, .int (i % j)) := by
  rw [e_bin, h1, b_ok, h2, b_ok]
  show okK (if 0 < j then some (Kd.v, D.int (i % j)) else none) = _
  rw [if_pos hj]
  rfl
theorem eint1 {e : E} {i : Int} (h : evE cl e ρ = .ok (.v, .int i)) : evE cl (.blt .int1 (.cons false e .nil)) ρ = .ok (.v, .int i) := by
  rw [e_blt, es_cons, h]
  rfl
theorem eaddi {e1 e2 : E} {i j : Int} (h1 : evE cl e1 ρ = .ok (.v, .int i)) (h2 : evE cl e2 ρ = .ok (.v, .int j)) : evE cl (.bin .add e1 e2) ρ = .ok (.v, .int (i + j)) := by
  rw [e_bin, h1, b_ok, h2, b_ok]
  rfl
theorem mul_seven (i : Int) : binD .mul (.int 7) (.int i) = some (.v, .int (7 * i)) := by
  simp [binD]
theorem emul7 {e : E} {i : Int} (h : evE cl e ρ = .ok (.v, .int i)) : evE cl (.bin .mul (.cst (.int 7)) e) ρ = .ok (.v, .int (7 * i)) := by
  rw [e_bin, e_cst, b_ok, h, b_ok]
  show okK (binD .mul (.int 7) (.int i)) = _
  rw [mul_seven]
  rfl
theorem elen {e : E} {k : Kd} {ds : List D} (h : evE cl e ρ = .ok (k, .lst ds)) : evE cl (.blt .len (.cons false e .nil)) ρ = .ok (.v, .int ds.length) := by
  rw [e_blt, es_cons, h]
  rfl
theorem eslc {e lo hi : E} {k k2 k3 : Kd} {ds : List D} {d2 d3 : D} {l h : Option Int} (h1 : evE cl e ρ = .ok (k, .lst ds)) (h2 : evE cl lo ρ = .ok (k2, d2)) (p2 : partOf lo d2 = some l) (h3 : evE cl hi ρ = .ok (k3, d3)) (p3 : partOf hi d3 = some h) : evE cl (.slc e lo hi) ρ = .ok (.f, .lst (cutL ds l h)) := by
  rw [e_slc, h1, b_ok, h2, b_ok]
  simp only [p2]
  rw [h3, b_ok]
  simp only [p3]
  rfl
theorem eaddl {e1 e2 : E} {k1 k2 : Kd} {x y : List D} (h1 : evE cl e1 ρ = .ok (k1, .lst x)) (h2 : evE cl e2 ρ = .ok (k2, .lst y)) (h : x.length + y.length ≤ 1000000) : evE cl (.bin .add e1 e2) ρ = .ok (.f, .lst (x ++ y)) := by
  have hz : x.length + y.length ≤ szl := by unfold szl; omega
  rw [e_bin, h1, b_ok, h2, b_ok]
  show okK (if x.length + y.length ≤ szl then some (Kd.f, D.lst (x ++ y)) else none) = _
  rw [if_pos hz]
  rfl
theorem eite_t {c a b : E} {r : RK} (h : evE cl c ρ = .ok (.v, .bl true)) (h2 : evE cl a ρ = r) : evE cl (.ite c a b) ρ = r := by
  rw [e_ite, h]
  exact h2
theorem eite_f {c a b : E} {r : RK} (h : evE cl c ρ = .ok (.v, .bl false)) (h2 : evE cl b ρ = r) : evE cl (.ite c a b) ρ = r := by
  rw [e_ite, h]
  exact h2
end
theorem cut_map (ws : List W) (lo hi : Option Int) : cutL (ws.map D.str) lo hi = (cutL ws lo hi).map .str := by
  unfold cutL
  rw [List.length_map, List.map_take, List.map_drop]
theorem cut_mem (ws : List W) (lo hi : Option Int) : ∀ v ∈ cutL ws lo hi, v ∈ ws := by
  intro v hv
  exact List.mem_of_mem_drop (List.mem_of_mem_take hv)
theorem cut_lo (ws : List W) (sp : Nat) : (cutL ws none (some (sp : Int))).length ≤ sp := by
  unfold cutL sEnd
  simp only [List.length_take, List.length_drop]
  split <;> omega
theorem cut_lo2 (ws : List W) (sp : Nat) : (cutL ws none (some (sp : Int))).length ≤ ws.length := by
  unfold cutL
  simp only [List.length_take, List.length_drop]
  omega
theorem cut_hi (ws : List W) (i : Int) (sp : Nat) (h : (sp : Int) ≤ i) : (cutL ws (some i) none).length ≤ ws.length - sp := by
  unfold cutL sEnd
  simp only [List.length_take, List.length_drop]
  rw [if_neg (by omega)]
  omega
abbrev ROW : E := (.ite (.cmp .lt (.var 9) (.cst (.int 3))) (.bin .add (.bin .add (.slc (.var 3) .nope (.var 7)) (.ite (.cmp .lt (.var 9) (.cst (.int 2))) (.lst (.cons false (.var 8) .nil)) (.lst .nil))) (.slc (.var 3) (.bin .add (.var 7) (.ite (.cmp .gt (.var 9) (.cst (.int 0))) (.cst (.int 1)) (.cst (.int 0)))) .nope)) (.slc (.var 3) .nope (.var 7)))
abbrev FS (sc A T : D) (ws : List W) (sl : List W) (s5 s6 s7 s8 s9 s10 s11 s12 : Slot) : List Slot := [.val sc, .val A, .val T, .own (.lst (ws.map .str)), .own (.lst (sl.map .str)), s5, s6, s7, s8, s9, s10, s11, s12, .none, .none, .none, .none, .none]
theorem row_run {cl : Cl} (sc A T : D) (ws sl : List W) (s5 s6 s10 s11 s12 : Slot) (sp wy : Nat) (wd : W) (hs : sp ≤ ws.length) (hl : ws.length ≤ 1000) (hv : ∀ v ∈ ws, v ∈ VV) (hw : wd ∈ VV) :
    ∃ R : List W, evE cl ROW (FS sc A T ws sl s5 s6 (.val (.int sp)) (.val (.str wd)) (.val (.int wy)) s10 s11 s12) = .ok (.f, .lst (R.map .str)) ∧ (∀ v ∈ R, v ∈ VV) ∧ R.length ≤ ws.length + 1 := by
  have e3 : evE cl (.var 3) (FS sc A T ws sl s5 s6 (.val (.int sp)) (.val (.str wd)) (.val (.int wy)) s10 s11 s12) = .ok (.b, .lst (ws.map .str)) := rfl
  have e7 : evE cl (.var 7) (FS sc A T ws sl s5 s6 (.val (.int sp)) (.val (.str wd)) (.val (.int wy)) s10 s11 s12) = .ok (.v, .int sp) := rfl
  have en : evE cl .nope (FS sc A T ws sl s5 s6 (.val (.int sp)) (.val (.str wd)) (.val (.int wy)) s10 s11 s12) = .ok (.v, .non) := rfl
  have q1 := eslc (l := none) (h := some (sp : Int)) e3 en rfl e7 rfl
  rw [cut_map] at q1
  have l1 := cut_lo ws sp
  have l2 := cut_lo2 ws sp
  by_cases h3 : wy < 3
  · have c3 : evE cl (.cmp .lt (.var 9) (.cst (.int 3))) (FS sc A T ws sl s5 s6 (.val (.int sp)) (.val (.str wd)) (.val (.int wy)) s10 s11 s12) = .ok (.v, .bl true) := by
      show R.ok (Kd.v, D.bl (decide ((wy : Int) < 3))) = _
      rw [decide_eq_true (by omega : (wy : Int) < 3)]
    obtain ⟨md, em, hmd, hml⟩ : ∃ md : List W, evE cl (.ite (.cmp .lt (.var 9) (.cst (.int 2))) (.lst (.cons false (.var 8) .nil)) (.lst .nil)) (FS sc A T ws sl s5 s6 (.val (.int sp)) (.val (.str wd)) (.val (.int wy)) s10 s11 s12) = .ok (.f, .lst (md.map .str)) ∧ (∀ v ∈ md, v ∈ VV) ∧ md.length ≤ 1 := by
      by_cases h2 : wy < 2
      · have c2 : evE cl (.cmp .lt (.var 9) (.cst (.int 2))) (FS sc A T ws sl s5 s6 (.val (.int sp)) (.val (.str wd)) (.val (.int wy)) s10 s11 s12) = .ok (.v, .bl true) := by
          show R.ok (Kd.v, D.bl (decide ((wy : Int) < 2))) = _
          rw [decide_eq_true (by omega : (wy : Int) < 2)]
        refine ⟨[wd], eite_t c2 ?_, fun v hv => by rw [List.mem_singleton.mp hv]; exact hw, by simp⟩
        have : evE cl (.var 8) (FS sc A T ws sl s5 s6 (.val (.int sp)) (.val (.str wd)) (.val (.int wy)) s10 s11 s12) = .ok (.v, .str wd) := rfl
        rw [e_lst, es_cons, this]
        rfl
      · have c2 : evE cl (.cmp .lt (.var 9) (.cst (.int 2))) (FS sc A T ws sl s5 s6 (.val (.int sp)) (.val (.str wd)) (.val (.int wy)) s10 s11 s12) = .ok (.v, .bl false) := by
          show R.ok (Kd.v, D.bl (decide ((wy : Int) < 2))) = _
          rw [decide_eq_false (by omega : ¬ (wy : Int) < 2)]
        exact ⟨[], eite_f c2 rfl, fun v hv => (by cases hv), by simp⟩
    obtain ⟨x, ex, hx⟩ : ∃ x : Int, evE cl (.bin .add (.var 7) (.ite (.cmp .gt (.var 9) (.cst (.int 0))) (.cst (.int 1)) (.cst (.int 0)))) (FS sc A T ws sl s5 s6 (.val (.int sp)) (.val (.str wd)) (.val (.int wy)) s10 s11 s12) = .ok (.v, .int x) ∧ (sp : Int) ≤ x := by
      by_cases h0 : 0 < wy
      · have c0 : evE cl (.cmp .gt (.var 9) (.cst (.int 0))) (FS sc A T ws sl s5 s6 (.val (.int sp)) (.val (.str wd)) (.val (.int wy)) s10 s11 s12) = .ok (.v, .bl true) := by
          show R.ok (Kd.v, D.bl (decide ((0 : Int) < wy))) = _
          rw [decide_eq_true (by omega : (0 : Int) < wy)]
        exact ⟨_, eaddi e7 (eite_t c0 (show evE cl (.cst (.int 1)) _ = _ from rfl)), by omega⟩
      · have c0 : evE cl (.cmp .gt (.var 9) (.cst (.int 0))) (FS sc A T ws sl s5 s6 (.val (.int sp)) (.val (.str wd)) (.val (.int wy)) s10 s11 s12) = .ok (.v, .bl false) := by
          show R.ok (Kd.v, D.bl (decide ((0 : Int) < wy))) = _
          rw [decide_eq_false (by omega : ¬ (0 : Int) < wy)]
        exact ⟨_, eaddi e7 (eite_f c0 (show evE cl (.cst (.int 0)) _ = _ from rfl)), by omega⟩
    have q2 := eslc (l := some x) (h := none) e3 ex rfl en rfl
    rw [cut_map] at q2
    have l3 := cut_hi ws x sp hx
    have q12 := eaddl q1 em (by simp only [List.length_map]; omega)
    have q := eaddl q12 q2 (by simp only [List.length_map, List.length_append]; omega)
    refine ⟨cutL ws none (some (sp : Int)) ++ md ++ cutL ws (some x) none, ?_, ?_, ?_⟩
    · rw [List.map_append, List.map_append]
      exact eite_t c3 q
    · intro v hvv
      simp only [List.mem_append] at hvv
      rcases hvv with (hvv | hvv) | hvv
      · exact hv v (cut_mem _ _ _ v hvv)
      · exact hmd v hvv
      · exact hv v (cut_mem _ _ _ v hvv)
    · simp only [List.length_append]
      omega
  · have c3 : evE cl (.cmp .lt (.var 9) (.cst (.int 3))) (FS sc A T ws sl s5 s6 (.val (.int sp)) (.val (.str wd)) (.val (.int wy)) s10 s11 s12) = .ok (.v, .bl false) := by
      show R.ok (Kd.v, D.bl (decide ((wy : Int) < 3))) = _
      rw [decide_eq_false (by omega : ¬ (wy : Int) < 3)]
    refine ⟨cutL ws none (some (sp : Int)), eite_f c3 q1, fun v hvv => hv v (cut_mem _ _ _ v hvv), by omega⟩
/-! ### reading -/
theorem VV_fit {v : W} (h : v ∈ VV) : fitB v = true := List.all_eq_true.mp fitB_all v h
theorem VX_rl {v : W} (h : v ∈ VX) : rlB v = true := List.all_eq_true.mp rlB_allX v h
theorem size_len (a : Ask) : a.size ≤ (toks a).length := by
  have hb : ∀ (c : Bool) (l : List W), l.length ≤ (brk c l).length := fun c l => by unfold brk; split <;> simp; omega
  induction a with
  | one w => simp [toks, Ask.size]
  | two w v => simp [toks, Ask.size]
  | una w x ih =>
    have := hb (isJo x) (toks x)
    simp only [toks, Ask.size, List.length_cons]; omega
  | bin w x y i1 i2 =>
    have h1 := hb (isOr x) (toks x)
    have h2 := hb (isJo y) (toks y)
    have h3 := hb (isOr y) (toks y)
    simp only [toks, Ask.size, List.length_append, List.length_cons]
    split <;> omega
theorem len_size (a : Ask) : (toks a).length ≤ 5 * a.size := by
  induction a with
  | one w => simp [toks, Ask.size]
  | two w v => simp [toks, Ask.size]
  | una w x ih =>
    have := len_una w x
    simp only [Ask.size]; omega
  | bin w x y i1 i2 =>
    have := len_bin w x y
    simp only [Ask.size]; omega
/-- an ask's text is read -/
theorem read_ask (k : Nat) {a : Ask} (h : a.wf (· ∈ VX)) (hs : a.size ≤ 60) : callF pr (k + 33) 30 [.str (tx a)] = .ok (.v, a.d, []) := by
  have hl := len_size a
  have hz := tx_small h (by omega)
  exact read_ir k (L := layA a false) (ws := toks a) (r := .good a.d) (lay_snd a false) (by show (tx a).length ≤ szl; unfold szl; omega) (tx_len h).1 (lay_good h) (fun v hv => VX_rl (toks_VX h v hv)) (by omega) (round (· ∈ VX) h hs) fun _ _ => trivial
theorem sp_small {ws : List W} (hv : ∀ v ∈ ws, v ∈ VX) : printable (joinS [32] ws) = true ∧ (joinS [32] ws).length ≤ 12 * ws.length := by
  rw [join_sp]
  have := txt_small (spL ws) (by rw [spL_snd]; exact fun v h => VX_ok (hv v h))
  have e : (spL ws).length = ws.length := by
    have := congrArg List.length (spL_snd ws)
    rwa [List.length_map] at this
  rw [← e]
  exact this
/-- an ask's words, with a blank between, are read -/
theorem read_row (k : Nat) {a : Ask} (h : a.wf (· ∈ VX)) (hs : a.size ≤ 60) : callF pr (k + 33) 30 [.str (joinS [32] (toks a))] = .ok (.v, a.d, []) := by
  have hl := len_size a
  obtain ⟨h1, h2⟩ := sp_small (toks_VX h)
  rw [join_sp] at h1 h2 ⊢
  exact read_ir k (L := spL (toks a)) (ws := toks a) (r := .good a.d) (spL_snd _) (by unfold szl; omega) h1 (sp_good _ fun v hv => VX_ok (toks_VX h v hv)) (fun v hv => VX_rl (toks_VX h v hv)) (by omega) (round (· ∈ VX) h hs) fun _ _ => trivial
/-- a row is told of -/
theorem told_row (k : Nat) {ws : List W} (hv : ∀ v ∈ ws, v ∈ VV) (hl : ws.length ≤ 60) : (∃ i : Nat, rightM ws 0 kA 0 = some i ∧ callF pr (k + 34) 41 [.str (joinS [32] ws)] = .ok (.v, .int i, [])) ∨ (rightM ws 0 kA 0 = none ∧ ∃ a : Ask, a.wf (· ∈ VV) ∧ a.size ≤ 60 ∧ callF pr (k + 34) 41 [.str (joinS [32] ws)] = .ok (.v, a.d, [])) := by
  obtain ⟨r, e, h1, h2⟩ := row_told (· ∈ VV) (fun v h => VV_fit h) hv hl
  obtain ⟨p1, p2⟩ := sp_small fun v h => VV_VX (hv v h)
  have t := told_ir k (L := spL ws) (ws := ws) (r := r) (spL_snd _) (by rw [← join_sp]; unfold szl; omega) (by rw [← join_sp]; exact p1) (sp_good _ fun v h => VX_ok (VV_VX (hv v h))) (fun v h => VX_rl (VV_VX (hv v h))) (by omega) e
  rw [← join_sp] at t
  cases hR : rightM ws 0 kA 0 with
  | some i =>
    left
    refine ⟨i, rfl, ?_⟩
    rw [t, h1 i hR]
    rfl
  | none =>
    right
    obtain ⟨a, e1, e2, e3⟩ := h2 hR
    refine ⟨rfl, a, e2, by omega, ?_⟩
    rw [t, e1]
    rfl
/-- an ask's own words are right -/
theorem right_none {a : Ask} (h : a.wf (· ∈ VV)) (hl : (toks a).length ≤ 60) : rightM (toks a) 0 kA 0 = none := by
  obtain ⟨r, e, h1, h2⟩ := row_told (· ∈ VV) (fun v h => VV_fit h) (toks_VV h) hl
  have := size_len a
  rw [round (· ∈ VV) h (by omega)] at e
  cases e
  cases hR : rightM (toks a) 0 kA 0 with
  | none => rfl
  | some i => cases h1 i hR
theorem allStr_map (ws : List W) : allStr (ws.map .str) = some ws := by
  induction ws with
  | nil => rfl
  | cons w ws ih => simp [allStr, ih]
theorem sumLen_le : ∀ {ws : List W}, (∀ v ∈ ws, v ∈ VX) → sumLen ws ≤ 11 * ws.length
  | [], _ => by decide
  | w :: ws, h => by
    have := sumLen_le fun v hv => h v (List.mem_cons_of_mem _ hv)
    obtain ⟨_, _, _, _, _, _, h2⟩ := okB_ok (VX_ok (h w (by simp)))
    simp only [sumLen, List.length_cons]; omega
theorem ejoin {cl : Cl} {ρ : List Slot} {e : E} {k : Kd} {ws : List W} (h : evE cl e ρ = .ok (k, .lst (ws.map .str))) (hv : ∀ v ∈ ws, v ∈ VX) (hl : ws.length ≤ 1000) : evE cl (.mth .join (.cst (.str [32])) (.cons false e .nil)) ρ = .ok (.v, .str (joinS [32] ws)) := by
  have hs := sumLen_le hv
  have hz : sumLen ws + [32].length * ws.length ≤ 1000000 := by simp only [List.length_cons, List.length_nil]; omega
  have hm : mthD .join (.str [32]) [.lst (ws.map .str)] = some (.v, .str (joinS [32] ws)) := by
    simp only [mthD, allStr_map, if_pos hz]
  rw [e_mth, e_cst, b_ok]
  show (R.bind (evEs cl (.cons false e .nil) ρ) fun ps => okK (mthD .join (.str [32]) (ps.map (·.2)))) = _
  rw [es_cons, h]
  show okK (mthD .join (.str [32]) [.lst (ws.map .str)]) = _
  rw [hm]
  rfl
end K12
end

section
set_option linter.all false
set_option maxRecDepth 100000
set_option maxHeartbeats 1000000
/-! K12ad: the law's turns over rows. -/
namespace K12
open Ev
abbrev TB : Ss := (.cons (.asg (.one 6) (.blt .int1 (.cons false (.bin .fdiv (.call 31 (.cons false (.var 0) (.cons false (.cst (.int 1)) .nil))) (.bin .add (.cst (.int 1)) (.bin .mul (.cst (.int 7)) (.var 5)))) .nil))) (.cons (.asg (.one 7) (.bin .mod (.blt .int1 (.cons false (.bin .fdiv (.var 6) (.cst (.int 60))) .nil)) (.bin .add (.blt .len (.cons false (.var 3) .nil)) (.cst (.int 1))))) (.cons (.asg (.one 8) (.idx (.var 4) (.bin .mod (.var 6) (.blt .len (.cons false (.var 4) .nil))))) (.cons (.asg (.one 9) (.bin .mod (.blt .int1 (.cons false (.bin .fdiv (.var 6) (.cst (.int 20))) .nil)) (.cst (.int 4)))) (.cons (.asg (.one 10) (.ite (.cmp .lt (.var 9) (.cst (.int 3))) (.bin .add (.bin .add (.slc (.var 3) .nope (.var 7)) (.ite (.cmp .lt (.var 9) (.cst (.int 2))) (.lst (.cons false (.var 8) .nil)) (.lst .nil))) (.slc (.var 3) (.bin .add (.var 7) (.ite (.cmp .gt (.var 9) (.cst (.int 0))) (.cst (.int 1)) (.cst (.int 0)))) .nope)) (.slc (.var 3) .nope (.var 7)))) (.cons (.asg (.one 11) (.call 38 (.cons false (.var 10) .nil))) (.cons (.ifS (.and (.cmp .ne (.var 10) (.lst .nil)) (.not (.call 39 (.cons false (.var 10) .nil)))) (.cons (.asg (.one 12) (.call 41 (.cons false (.mth .join (.cst (.str [32])) (.cons false (.var 10) .nil)) .nil))) (.cons (.ifS (.or (.and (.cmp .is (.var 11) (.cst (.non))) (.not (.isi (.var 12) [.ttuple]))) (.and (.cmp .isnot (.var 11) (.cst (.non))) (.not (.call 33 (.cons false (.var 12) (.cons false (.var 11) .nil)))))) (.cons (.ret (.cst (.bl false))) .nil) .nil) (.cons (.ifS (.and (.cmp .is (.var 11) (.cst (.non))) (.not (.call 33 (.cons false (.call 30 (.cons false (.call 29 (.cons false (.var 12) .nil)) .nil)) (.cons false (.var 12) .nil))))) (.cons (.ret (.cst (.bl false))) .nil) .nil) .nil))) .nil) .nil)))))))
def SPR : List W := [[97, 110, 100], [111, 114], [110, 111, 116], [110, 101, 101, 100, 115], [40], [41], [98, 121], [105, 100], [102, 105, 108, 101], [97, 108, 108], [97, 100, 97], [97, 100, 97, 46, 49], [97, 100, 97, 46, 48], [97, 47, 98], [39, 120, 39], [116, 97, 103], [97, 100, 97, 46, 49, 48, 48, 48]]
theorem SPR_VV : ∀ w ∈ SPR, w ∈ VV := by decide +kernel
theorem deps_str : ∀ ws : List W, deps (ws.map .str) = 0
  | [] => rfl
  | w :: ws => by simp [deps, dep, deps_str ws]
theorem ne_nil {cl : Cl} {ρ : List Slot} {e : E} {k : Kd} {R : List W} (h : evE cl e ρ = .ok (k, .lst (R.map .str))) : evE cl (.cmp .ne e (.lst .nil)) ρ = .ok (.v, .bl (!R.isEmpty)) := by
  have hd : dep (.lst (R.map .str)) ≤ 60 := by simp [dep, deps_str]
  have hm : cmpD .ne (.lst (R.map .str)) (.lst []) = some (!R.isEmpty) := by
    show (if dep (.lst (R.map .str)) ≤ 60 ∧ dep (.lst []) ≤ 60 then some (!eqD (.lst (R.map .str)) (.lst [])) else none) = _
    rw [if_pos ⟨hd, by decide⟩]
    cases R <;> rfl
  rw [e_cmp, h, b_ok]
  show (match cmpD .ne (.lst (R.map .str)) (.lst []) with | some r => Ev.R.ok (Kd.v, D.bl r) | none => Ev.R.stuck) = _
  rw [hm]
theorem call1b {cl : Cl} {ρ : List Slot} {f : Nat} {e1 : E} {d1 d : D} (h1 : evE cl e1 ρ = .ok (.b, d1)) (h : cl f [d1] = .ok (.v, d, [])) (hl : lf d = true) : evE cl (.call f (.cons false e1 .nil)) ρ = .ok (.v, d) := by
  rw [e_call, es_cons, h1, es_nil]
  show (cl f [d1]).bind (fun r => afterCall true r) = _
  rw [h]
  show (if lf d then R.ok (Kd.v, d) else .stuck) = _
  rw [if_pos hl]
theorem enot {cl : Cl} {ρ : List Slot} {e : E} {b : Bool} (h : evE cl e ρ = .ok (.v, .bl b)) : evE cl (.not e) ρ = .ok (.v, .bl (!b)) := by
  rw [e_not, h]
  rfl
theorem eand_t {cl : Cl} {ρ : List Slot} {a b : E} {r : RK} (h : evE cl a ρ = .ok (.v, .bl true)) (h2 : evE cl b ρ = r) : evE cl (.and a b) ρ = r := by
  rw [e_and, h]
  exact h2
theorem eand_f {cl : Cl} {ρ : List Slot} {a b : E} (h : evE cl a ρ = .ok (.v, .bl false)) : evE cl (.and a b) ρ = .ok (.v, .bl false) := by
  rw [e_and, h]
  rfl
theorem eor_f {cl : Cl} {ρ : List Slot} {a b : E} {r : RK} (h : evE cl a ρ = .ok (.v, .bl false)) (h2 : evE cl b ρ = r) : evE cl (.or a b) ρ = r := by
  rw [e_or, h]
  exact h2
theorem eisn {cl : Cl} {ρ : List Slot} {e : E} {d : D} (h : evE cl e ρ = .ok (.v, d)) : evE cl (.cmp .is e (.cst (.non))) ρ = .ok (.v, .bl (isNonD d)) := by
  rw [e_cmp, h, b_ok]
  show (match cmpD .is d .non with | some r => R.ok (Kd.v, D.bl r) | none => .stuck) = _
  rw [is_non]
theorem eisnn {cl : Cl} {ρ : List Slot} {e : E} {d : D} (h : evE cl e ρ = .ok (.v, d)) : evE cl (.cmp .isnot e (.cst (.non))) ρ = .ok (.v, .bl (!isNonD d)) := by
  rw [e_cmp, h, b_ok]
  show (match cmpD .isnot d .non with | some r => R.ok (Kd.v, D.bl r) | none => .stuck) = _
  rw [isnot_non]
abbrev FT (ns : List Int) (A : D) (T : List Nat) (ws : List W) := FS (.scr ns) A (.str T) ws SPR
abbrev I1 : S := (.ifS (.or (.and (.cmp .is (.var 11) (.cst (.non))) (.not (.isi (.var 12) [.ttuple]))) (.and (.cmp .isnot (.var 11) (.cst (.non))) (.not (.call 33 (.cons false (.var 12) (.cons false (.var 11) .nil)))))) (.cons (.ret (.cst (.bl false))) .nil) .nil)
abbrev I2 : S := (.ifS (.and (.cmp .is (.var 11) (.cst (.non))) (.not (.call 33 (.cons false (.call 30 (.cons false (.call 29 (.cons false (.var 12) .nil)) .nil)) (.cons false (.var 12) .nil))))) (.cons (.ret (.cst (.bl false))) .nil) .nil)
abbrev T12 : S := (.asg (.one 12) (.call 41 (.cons false (.mth .join (.cst (.str [32])) (.cons false (.var 10) .nil)) .nil)))
/-- what is told of a row is right -/
theorem told_right (k : Nat) (hk : 190 ≤ k) (ns : List Int) (A : D) (T : List Nat) (ws R : List W) (hv : ∀ v ∈ R, v ∈ VV) (hl : R.length ≤ 60) (s5 s6 s7 s8 s9 s12 : Slot) :
    ∃ s12', evSs (callF pr k) (.cons T12 (.cons I1 (.cons I2 .nil))) (FT ns A T ws s5 s6 s7 s8 s9 (.own (.lst (R.map .str))) (.val (rightD (rightM R 0 kA 0))) s12) = .nx (FT ns A T ws s5 s6 s7 s8 s9 (.own (.lst (R.map .str))) (.val (rightD (rightM R 0 kA 0))) s12') := by
  obtain ⟨m, rfl⟩ : ∃ m, k = m + 34 := ⟨k - 34, by omega⟩
  have ej : ∀ s11, evE (callF pr (m + 34)) (.mth .join (.cst (.str [32])) (.cons false (.var 10) .nil)) (FT ns A T ws s5 s6 s7 s8 s9 (.own (.lst (R.map .str))) s11 s12) = .ok (.v, .str (joinS [32] R)) := fun s11 => ejoin (k := .b) rfl (fun v h => VV_VX (hv v h)) (by omega)
  rcases told_row m hv hl with ⟨i, hR, ht⟩ | ⟨hR, a, hw, hs, ht⟩
  · rw [hR]
    refine ⟨.val (.int i), ?_⟩
    have e12 := call1 (ej (.val (rightD (some i)))) ht
    rw [ss_nx (ρ' := FT ns A T ws s5 s6 s7 s8 s9 (.own (.lst (R.map .str))) (.val (rightD (some i))) (.val (.int i))) (by rw [s_asg, e12]; rfl)]
    have v11 : evE (callF pr (m + 34)) (.var 11) (FT ns A T ws s5 s6 s7 s8 s9 (.own (.lst (R.map .str))) (.val (rightD (some i))) (.val (.int i))) = .ok (.v, .int i) := rfl
    have v12 : evE (callF pr (m + 34)) (.var 12) (FT ns A T ws s5 s6 s7 s8 s9 (.own (.lst (R.map .str))) (.val (rightD (some i))) (.val (.int i))) = .ok (.v, .int i) := rfl
    have es := enot (call2 v12 v11 (same_int (m + 33) i))
    have c1 := eor_f (eand_f (b := .not (.isi (.var 12) [.ttuple])) (eisn v11)) (eand_t (eisnn v11) es)
    have c2 := eand_f (b := (.not (.call 33 (.cons false (.call 30 (.cons false (.call 29 (.cons false (.var 12) .nil)) .nil)) (.cons false (.var 12) .nil))))) (eisn v11)
    rw [ss_nx (ρ' := FT ns A T ws s5 s6 s7 s8 s9 (.own (.lst (R.map .str))) (.val (rightD (some i))) (.val (.int i))) (by rw [if_f (tr_of c1)]; rfl), one_st, if_f (tr_of c2)]
    rfl
  · rw [hR]
    refine ⟨.val a.d, ?_⟩
    have e12 := call1 (ej (.val (rightD none))) ht
    rw [ss_nx (ρ' := FT ns A T ws s5 s6 s7 s8 s9 (.own (.lst (R.map .str))) (.val (rightD none)) (.val a.d)) (by rw [s_asg, e12]; rfl)]
    have v11 : evE (callF pr (m + 34)) (.var 11) (FT ns A T ws s5 s6 s7 s8 s9 (.own (.lst (R.map .str))) (.val (rightD none)) (.val a.d)) = .ok (.v, .non) := rfl
    have v12 : evE (callF pr (m + 34)) (.var 12) (FT ns A T ws s5 s6 s7 s8 s9 (.own (.lst (R.map .str))) (.val (rightD none)) (.val a.d)) = .ok (.v, a.d) := rfl
    have ew := call1 v12 (written (m + 33) (wfX hw) hs (by omega))
    have er := call1 ew (read_ask (m + 1) (wfX hw) hs)
    have es := enot (call2 er v12 (same_ask a (wfX hw) (m + 34) (by omega)))
    have et : evE (callF pr (m + 34)) (.not (.isi (.var 12) [.ttuple])) (FT ns A T ws s5 s6 s7 s8 s9 (.own (.lst (R.map .str))) (.val (rightD none)) (.val a.d)) = .ok (.v, .bl false) := by
      obtain ⟨r, e⟩ := d_shape (wfX hw)
      rw [e_not, e_isi, v12, e]
      rfl
    have c1 := eor_f (eand_t (eisn v11) et) (eand_f (b := (.not (.call 33 (.cons false (.var 12) (.cons false (.var 11) .nil))))) (eisnn v11))
    have c2 := eand_t (eisn v11) es
    rw [ss_nx (ρ' := FT ns A T ws s5 s6 s7 s8 s9 (.own (.lst (R.map .str))) (.val (rightD none)) (.val a.d)) (by rw [if_f (tr_of c1)]; rfl), one_st, if_f (tr_of c2)]
    rfl
theorem row_turn (k : Nat) (hk : 190 ≤ k) (ns : List Int) (hn : ns.length ≤ 1000000) (A : D) (T : List Nat) (ws : List W) (hv : ∀ v ∈ ws, v ∈ VV) (hl : ws.length ≤ 59) (j : Nat) (hj : j < 5) (s6 s7 s8 s9 s10 s11 s12 : Slot) :
    ∃ s6' s7' s8' s9' s10' s11' s12', evSs (callF pr k) TB (FT ns A T ws (.val (.int j)) s6 s7 s8 s9 s10 s11 s12) = .nx (FT ns A T ws (.val (.int j)) s6' s7' s8' s9' s10' s11' s12') := by
  obtain ⟨m, rfl⟩ : ∃ m, k = m + 31 := ⟨k - 31, by omega⟩
  have c5 := call2 (cl := callF pr (m + 31)) (f := 31) (ρ := FT ns A T ws (.val (.int j)) s6 s7 s8 s9 s10 s11 s12) (e1 := .var 0) (e2 := .cst (.int 1)) rfl rfl (law_cell (m + 30) ns 1 hn)
  have e6 := eint1 (efdiv c5 (eaddi (show evE (callF pr (m + 31)) (.cst (.int 1)) (FT ns A T ws (.val (.int j)) s6 s7 s8 s9 s10 s11 s12) = _ from rfl) (emul7 (show evE (callF pr (m + 31)) (.var 5) _ = .ok (.v, .int j) from rfl))) (by omega))
  generalize (ns.getD 1 0) / (1 + 7 * (j : Int)) = n at e6
  have t6 : evS (callF pr (m + 31)) (.asg (.one 6) (.blt .int1 (.cons false (.bin .fdiv (.call 31 (.cons false (.var 0) (.cons false (.cst (.int 1)) .nil))) (.bin .add (.cst (.int 1)) (.bin .mul (.cst (.int 7)) (.var 5)))) .nil))) (FT ns A T ws (.val (.int j)) s6 s7 s8 s9 s10 s11 s12) = .nx (FT ns A T ws (.val (.int j)) (.val (.int n)) s7 s8 s9 s10 s11 s12) := by
    rw [s_asg, e6]
    rfl
  -- 7
  have lw : (((ws.map D.str).length : Nat) : Int) + 1 = ((ws.length + 1 : Nat) : Int) := by rw [List.length_map]; omega
  have e7 := emodi (eint1 (efdiv (show evE (callF pr (m + 31)) (.var 6) (FT ns A T ws (.val (.int j)) (.val (.int n)) s7 s8 s9 s10 s11 s12) = .ok (.v, .int n) from rfl) (show evE (callF pr (m + 31)) (.cst (.int 60)) _ = .ok (.v, .int 60) from rfl) (by decide))) (eaddi (elen (k := .b) (show evE (callF pr (m + 31)) (.var 3) _ = .ok (.b, .lst (ws.map .str)) from rfl)) (show evE (callF pr (m + 31)) (.cst (.int 1)) _ = .ok (.v, .int 1) from rfl)) (by omega)
  rw [lw] at e7
  obtain ⟨sp, hsp⟩ := Int.eq_ofNat_of_zero_le (Int.emod_nonneg (n / 60) (by omega : ((ws.length + 1 : Nat) : Int) ≠ 0))
  have hsl := Int.emod_lt_of_pos (n / 60) (by omega : (0 : Int) < ((ws.length + 1 : Nat) : Int))
  rw [hsp] at e7 hsl
  have t7 : evS (callF pr (m + 31)) (.asg (.one 7) (.bin .mod (.blt .int1 (.cons false (.bin .fdiv (.var 6) (.cst (.int 60))) .nil)) (.bin .add (.blt .len (.cons false (.var 3) .nil)) (.cst (.int 1))))) (FT ns A T ws (.val (.int j)) (.val (.int n)) s7 s8 s9 s10 s11 s12) = .nx (FT ns A T ws (.val (.int j)) (.val (.int n)) (.val (.int sp)) s8 s9 s10 s11 s12) := by
    rw [s_asg, e7]
    rfl
  -- 8
  obtain ⟨q, hq⟩ := Int.eq_ofNat_of_zero_le (Int.emod_nonneg n (by decide : (17 : Int) ≠ 0))
  have hql := Int.emod_lt_of_pos n (by decide : (0 : Int) < 17)
  rw [hq] at hql
  have hq17 : q < SPR.length := by show q < 17; omega
  have hg : SPR[q]? = some SPR[q] := List.getElem?_eq_getElem hq17
  have hwd : SPR[q] ∈ VV := SPR_VV _ (List.getElem_mem hq17)
  have em8 := emodi (show evE (callF pr (m + 31)) (.var 6) (FT ns A T ws (.val (.int j)) (.val (.int n)) (.val (.int sp)) s8 s9 s10 s11 s12) = .ok (.v, .int n) from rfl) (elen (k := .b) (show evE (callF pr (m + 31)) (.var 4) _ = .ok (.b, .lst (SPR.map .str)) from rfl)) (by decide)
  have e8 : evE (callF pr (m + 31)) (.idx (.var 4) (.bin .mod (.var 6) (.blt .len (.cons false (.var 4) .nil)))) (FT ns A T ws (.val (.int j)) (.val (.int n)) (.val (.int sp)) s8 s9 s10 s11 s12) = .ok (.v, .str SPR[q]) := by
    rw [e_idx, em8]
    show okV (idxD (.lst (SPR.map .str)) (.int (n % 17))) = _
    rw [hq]
    show okV (idxD (.lst (SPR.map .str)) (.int (q : Int))) = _
    rw [idx_row hg]
    rfl
  generalize SPR[q] = wd at hwd e8
  have t8 : evS (callF pr (m + 31)) (.asg (.one 8) (.idx (.var 4) (.bin .mod (.var 6) (.blt .len (.cons false (.var 4) .nil))))) (FT ns A T ws (.val (.int j)) (.val (.int n)) (.val (.int sp)) s8 s9 s10 s11 s12) = .nx (FT ns A T ws (.val (.int j)) (.val (.int n)) (.val (.int sp)) (.val (.str wd)) s9 s10 s11 s12) := by
    rw [s_asg, e8]
    rfl
  -- 9
  have e9 := emodi (eint1 (efdiv (show evE (callF pr (m + 31)) (.var 6) (FT ns A T ws (.val (.int j)) (.val (.int n)) (.val (.int sp)) (.val (.str wd)) s9 s10 s11 s12) = .ok (.v, .int n) from rfl) (show evE (callF pr (m + 31)) (.cst (.int 20)) _ = .ok (.v, .int 20) from rfl) (by decide))) (show evE (callF pr (m + 31)) (.cst (.int 4)) _ = .ok (.v, .int 4) from rfl) (by decide)
  obtain ⟨wy, hwy⟩ := Int.eq_ofNat_of_zero_le (Int.emod_nonneg (n / 20) (by decide : (4 : Int) ≠ 0))
  rw [hwy] at e9
  have t9 : evS (callF pr (m + 31)) (.asg (.one 9) (.bin .mod (.blt .int1 (.cons false (.bin .fdiv (.var 6) (.cst (.int 20))) .nil)) (.cst (.int 4)))) (FT ns A T ws (.val (.int j)) (.val (.int n)) (.val (.int sp)) (.val (.str wd)) s9 s10 s11 s12) = .nx (FT ns A T ws (.val (.int j)) (.val (.int n)) (.val (.int sp)) (.val (.str wd)) (.val (.int wy)) s10 s11 s12) := by
    rw [s_asg, e9]
    rfl
  -- 10
  obtain ⟨R, e10, hRv, hRl⟩ := row_run (cl := callF pr (m + 31)) (.scr ns) A (.str T) ws SPR (.val (.int j)) (.val (.int n)) s10 s11 s12 sp wy wd (by omega) (by omega) hv hwd
  have t10 : evS (callF pr (m + 31)) (.asg (.one 10) ROW) (FT ns A T ws (.val (.int j)) (.val (.int n)) (.val (.int sp)) (.val (.str wd)) (.val (.int wy)) s10 s11 s12) = .nx (FT ns A T ws (.val (.int j)) (.val (.int n)) (.val (.int sp)) (.val (.str wd)) (.val (.int wy)) (.own (.lst (R.map .str))) s11 s12) := by
    rw [s_asg, e10]
    rfl
  -- 11
  have e11 := call1b (show evE (callF pr (m + 31)) (.var 10) (FT ns A T ws (.val (.int j)) (.val (.int n)) (.val (.int sp)) (.val (.str wd)) (.val (.int wy)) (.own (.lst (R.map .str))) s11 s12) = .ok (.b, .lst (R.map .str)) from rfl) (law_right m (fun v h => VV_fit (hRv v h)) (by omega)) (by cases rightM R 0 kA 0 <;> rfl)
  have t11 : evS (callF pr (m + 31)) (.asg (.one 11) (.call 38 (.cons false (.var 10) .nil))) (FT ns A T ws (.val (.int j)) (.val (.int n)) (.val (.int sp)) (.val (.str wd)) (.val (.int wy)) (.own (.lst (R.map .str))) s11 s12) = .nx (FT ns A T ws (.val (.int j)) (.val (.int n)) (.val (.int sp)) (.val (.str wd)) (.val (.int wy)) (.own (.lst (R.map .str))) (.val (rightD (rightM R 0 kA 0))) s12) := by
    rw [s_asg, e11]
    rfl
  have v10 : evE (callF pr (m + 31)) (.var 10) (FT ns A T ws (.val (.int j)) (.val (.int n)) (.val (.int sp)) (.val (.str wd)) (.val (.int wy)) (.own (.lst (R.map .str))) (.val (rightD (rightM R 0 kA 0))) s12) = .ok (.b, .lst (R.map .str)) := rfl
  have fin : ∃ s12', evS (callF pr (m + 31)) (.ifS (.and (.cmp .ne (.var 10) (.lst .nil)) (.not (.call 39 (.cons false (.var 10) .nil)))) (.cons T12 (.cons I1 (.cons I2 .nil))) .nil) (FT ns A T ws (.val (.int j)) (.val (.int n)) (.val (.int sp)) (.val (.str wd)) (.val (.int wy)) (.own (.lst (R.map .str))) (.val (rightD (rightM R 0 kA 0))) s12) = .nx (FT ns A T ws (.val (.int j)) (.val (.int n)) (.val (.int sp)) (.val (.str wd)) (.val (.int wy)) (.own (.lst (R.map .str))) (.val (rightD (rightM R 0 kA 0))) s12') := by
    have cn := ne_nil v10
    cases hR : R.isEmpty with
    | true =>
      rw [hR] at cn
      exact ⟨s12, by rw [if_f (tr_of (eand_f cn))]; rfl⟩
    | false =>
      rw [hR] at cn
      have hne : R ≠ [] := by intro z; rw [z] at hR; cases hR
      obtain ⟨b, hb⟩ := law_doubtful (m + 30) hne (by omega)
      have ed := enot (call1b v10 hb rfl)
      cases b with
      | true => exact ⟨s12, by rw [if_f (tr_of (eand_t cn ed))]; rfl⟩
      | false =>
        obtain ⟨s12', h⟩ := told_right (m + 31) hk ns A T ws R hRv (by omega) (.val (.int j)) (.val (.int n)) (.val (.int sp)) (.val (.str wd)) (.val (.int wy)) s12
        exact ⟨s12', by rw [if_t (tr_of (eand_t cn ed))]; exact h⟩
  obtain ⟨s12', hf⟩ := fin
  refine ⟨.val (.int n), .val (.int sp), .val (.str wd), .val (.int wy), .own (.lst (R.map .str)), .val (rightD (rightM R 0 kA 0)), s12', ?_⟩
  rw [ss_nx t6, ss_nx t7, ss_nx t8, ss_nx t9, ss_nx t10, ss_nx t11, one_st]
  exact hf
theorem turns (k : Nat) (hk : 190 ≤ k) (ns : List Int) (hn : ns.length ≤ 1000000) (A : D) (T : List Nat) (ws : List W) (hv : ∀ v ∈ ws, v ∈ VV) (hl : ws.length ≤ 59) : ∀ (c lo : Nat) (s5 s6 s7 s8 s9 s10 s11 s12 : Slot), lo + c = 5 →
    ∃ s5' s6' s7' s8' s9' s10' s11' s12', loopF (callF pr k) (.one 5) TB (rngL lo c) (FT ns A T ws s5 s6 s7 s8 s9 s10 s11 s12) = .nx (FT ns A T ws s5' s6' s7' s8' s9' s10' s11' s12') := by
  intro c
  induction c with
  | zero => intro lo s5 s6 s7 s8 s9 s10 s11 s12 _; exact ⟨s5, s6, s7, s8, s9, s10, s11, s12, rfl⟩
  | succ c ih =>
    intro lo s5 s6 s7 s8 s9 s10 s11 s12 h
    obtain ⟨a6, a7, a8, a9, a10, a11, a12, e⟩ := row_turn k hk ns hn A T ws hv hl lo (by omega) s6 s7 s8 s9 s10 s11 s12
    obtain ⟨b5, b6, b7, b8, b9, b10, b11, b12, e2⟩ := ih (lo + 1) (.val (.int lo)) a6 a7 a8 a9 a10 a11 a12 (by omega)
    refine ⟨b5, b6, b7, b8, b9, b10, b11, b12, ?_⟩
    have el : rngL (lo : Int) (c + 1) = .int lo :: rngL ((lo + 1 : Nat) : Int) c := rfl
    rw [el, loopF_cons]
    show (match evSs (callF pr k) TB (FT ns A T ws (.val (.int lo)) s6 s7 s8 s9 s10 s11 s12) with
      | .nx ρ' => loopF (callF pr k) (.one 5) TB (rngL ((lo + 1 : Nat) : Int) c) ρ'
      | .ct ρ' => loopF (callF pr k) (.one 5) TB (rngL ((lo + 1 : Nat) : Int) c) ρ'
      | .bk ρ' => .bk ρ'
      | o => o) = _
    rw [e]
    exact e2
end K12
end

section
set_option linter.all false
set_option maxRecDepth 100000
set_option maxHeartbeats 1000000
/-! K12ae: the law's last checks; the law holds. -/
namespace K12
open Ev
abbrev LST : E := (.lst (.cons false (.tup (.cons false (.cst (.str [116, 101, 120, 116, 39, 120, 39])) (.cons false (.cst (.int 1)) .nil))) (.cons false (.tup (.cons false (.cst (.str [97, 108, 108, 9, 111, 114])) (.cons false (.bin .sub (.cst (.int 0)) (.cst (.int 1))) .nil))) (.cons false (.tup (.cons false (.cst (.str [])) (.cons false (.cst (.int 0)) .nil))) (.cons false (.tup (.cons false (.bin .add (.bin .mul (.cst (.str [110, 111, 116, 32])) (.cst (.int 60))) (.cst (.str [97, 108, 108]))) (.cons false (.cst (.int 60)) .nil))) (.cons false (.tup (.cons false (.cst (.str [97, 108, 108, 32, 97, 108, 108])) (.cons false (.cst (.int 1)) .nil))) (.cons false (.tup (.cons false (.cst (.str [98, 121])) (.cons false (.cst (.int 1)) .nil))) .nil)))))))
abbrev CB : Ss := (.cons (.ifS (.not (.call 33 (.cons false (.call 41 (.cons false (.var 13) .nil)) (.cons false (.var 14) .nil)))) (.cons (.ret (.cst (.bl false))) .nil) .nil) .nil)
def CL : List (W × Int) := [([116, 101, 120, 116, 39, 120, 39], 1), ([97, 108, 108, 9, 111, 114], -1), ([], 0), (repS 60 [110, 111, 116, 32] ++ [97, 108, 108], 60), ([97, 108, 108, 32, 97, 108, 108], 1), ([98, 121], 1)]
def cD (p : W × Int) : D := .tup [.str p.1, .int p.2]
def tcB (p : W × Int) : Bool := match callF pr 60 41 [.str p.1] with | .ok (.v, .int i, []) => i == p.2 | _ => false
theorem tc_all : CL.all tcB = true := by decide +kernel
theorem tc_by : tcB ([98, 121, 32, 39, 97, 100, 97], -1) = true := by decide +kernel
theorem tc_ok {p : W × Int} (h : tcB p = true) {k : Nat} (hk : 60 ≤ k) : callF pr k 41 [.str p.1] = .ok (.v, .int p.2, []) := by
  unfold tcB at h
  split at h
  · rename_i i e
    rw [lift e hk, eq_of_beq h]
  · cases h
theorem tc_sp : (match callF pr 60 41 [.str [32, 32, 97, 108, 108, 32, 32]] with | .ok (.v, .tup [.str s], []) => s == [97, 108, 108] | _ => false) = true := by decide +kernel
theorem tc_sp_ok {k : Nat} (hk : 60 ≤ k) : callF pr k 41 [.str [32, 32, 97, 108, 108, 32, 32]] = .ok (.v, .tup [.str [97, 108, 108]], []) := by
  have h := tc_sp
  split at h
  · rename_i s e
    rw [lift e hk, eq_of_beq h]
  · cases h
theorem lst_run {cl : Cl} {ρ : List Slot} : evE cl LST ρ = .ok (.f, .lst (CL.map cD)) := by rfl
abbrev FU (ns : List Int) (A : D) (T : List Nat) (ws : List W) (s5 s6 s7 s8 s9 s10 s11 s12 s13 s14 : Slot) : List Slot := [.val (.scr ns), .val A, .val (.str T), .own (.lst (ws.map .str)), .own (.lst (SPR.map .str)), s5, s6, s7, s8, s9, s10, s11, s12, s13, s14, .none, .none, .none]
theorem const_loop (k : Nat) (ns : List Int) (A : D) (T : List Nat) (ws : List W) (s5 s6 s7 s8 s9 s10 s11 s12 : Slot) : ∀ (ps : List (W × Int)), (∀ p ∈ ps, callF pr (k + 1) 41 [.str p.1] = .ok (.v, .int p.2, [])) → ∀ (s13 s14 : Slot), ∃ s13' s14', loopF (callF pr (k + 1)) (.tup [13, 14]) CB (ps.map cD) (FU ns A T ws s5 s6 s7 s8 s9 s10 s11 s12 s13 s14) = .nx (FU ns A T ws s5 s6 s7 s8 s9 s10 s11 s12 s13' s14')
  | [], _, s13, s14 => ⟨s13, s14, rfl⟩
  | p :: ps, h, s13, s14 => by
    obtain ⟨a13, a14, e⟩ := const_loop k ns A T ws s5 s6 s7 s8 s9 s10 s11 s12 ps (fun q hq => h q (List.mem_cons_of_mem _ hq)) (.val (.str p.1)) (.val (.int p.2))
    refine ⟨a13, a14, ?_⟩
    have ht := h p (List.mem_cons_self ..)
    have c := enot (call2 (call1 (show evE (callF pr (k + 1)) (.var 13) (FU ns A T ws s5 s6 s7 s8 s9 s10 s11 s12 (.val (.str p.1)) (.val (.int p.2))) = .ok (.v, .str p.1) from rfl) ht) (show evE (callF pr (k + 1)) (.var 14) _ = .ok (.v, .int p.2) from rfl) (same_int k p.2))
    have eb : evSs (callF pr (k + 1)) CB (FU ns A T ws s5 s6 s7 s8 s9 s10 s11 s12 (.val (.str p.1)) (.val (.int p.2))) = .nx (FU ns A T ws s5 s6 s7 s8 s9 s10 s11 s12 (.val (.str p.1)) (.val (.int p.2))) := by
      rw [one_st, if_f (tr_of c)]
      rfl
    rw [List.map_cons, loopF_cons]
    show (match evSs (callF pr (k + 1)) CB (FU ns A T ws s5 s6 s7 s8 s9 s10 s11 s12 (.val (.str p.1)) (.val (.int p.2))) with
      | .nx ρ' => loopF (callF pr (k + 1)) (.tup [13, 14]) CB (ps.map cD) ρ'
      | .ct ρ' => loopF (callF pr (k + 1)) (.tup [13, 14]) CB (ps.map cD) ρ'
      | .bk ρ' => .bk ρ'
      | o => o) = _
    rw [eb]
    exact e
/-! ### a word in a text -/
theorem isPre_app : ∀ (x q : List Nat), isPre x (x ++ q) = true
  | [], _ => rfl
  | c :: x, q => by simp [isPre, isPre_app x q]
theorem inS_app (x : List Nat) : ∀ (p r : List Nat), inS x r = true → inS x (p ++ r) = true
  | [], r, h => h
  | c :: p, r, h => by
    rw [List.cons_append]
    simp only [inS, Bool.or_eq_true]
    exact .inr (inS_app x p r h)
theorem inS_pre (x q : List Nat) (c : Nat) : inS (c :: x) (c :: x ++ q) = true := by
  rw [List.cons_append]
  simp only [inS, Bool.or_eq_true]
  left
  rw [← List.cons_append]
  exact isPre_app _ _
theorem txt_mem : ∀ (L : Lay) (v : W), v ∈ L.map (·.2) → ∃ p q, txt L = p ++ (v ++ q)
  | [], v, h => by cases h
  | (b, w) :: L, v, h => by
    simp only [List.map_cons, List.mem_cons] at h
    rcases h with rfl | h
    · cases b with
      | true => exact ⟨[32], txt L, rfl⟩
      | false => exact ⟨[], txt L, rfl⟩
    · obtain ⟨p, q, e⟩ := txt_mem L v h
      cases b with
      | true => exact ⟨32 :: (w ++ p), q, by simp [txt, e]⟩
      | false => exact ⟨w ++ p, q, by simp [txt, e]⟩
theorem no_wx {a : Ask} (h : a.wf (· ∈ VX)) (hi : inS [119, 32, 120] (tx a) = false) : a.wf (· ∈ VV) := by
  refine wf_mono a h fun v hv hx => ?_
  rcases List.mem_cons.mp hx with rfl | hx
  · exfalso
    obtain ⟨p, q, e⟩ := txt_mem (layA a false) wx (by rw [lay_snd]; exact hv)
    have e2 : tx a = (p ++ [39]) ++ ([119, 32, 120] ++ ([39] ++ q)) := by
      show txt (layA a false) = _
      rw [e]
      simp [wx]
    rw [e2, inS_app _ _ _ (inS_pre [32, 120] _ 119)] at hi
    cases hi
  · exact hx
/-! ### the law -/
theorem needB0 (a : Ask) : needB 0 a = false := by
  cases a with
  | bin w x y => simp only [needB]; split <;> rfl
  | _ => rfl
theorem call1f {cl : Cl} {ρ : List Slot} {f : Nat} {e1 : E} {d1 d : D} (h1 : evE cl e1 ρ = .ok (.v, d1)) (h : cl f [d1] = .ok (.f, d, [])) : evE cl (.call f (.cons false e1 .nil)) ρ = .ok (.f, d) := by
  rw [e_call, es_cons, h1, es_nil]
  show (cl f [d1]).bind (fun r => afterCall false r) = _
  rw [h]
  rfl
theorem call3f {cl : Cl} {ρ : List Slot} {f : Nat} {e1 e2 e3 : E} {d1 d2 d3 d : D} (h1 : evE cl e1 ρ = .ok (.v, d1)) (h2 : evE cl e2 ρ = .ok (.v, d2)) (h3 : evE cl e3 ρ = .ok (.v, d3)) (h : cl f [d1, d2, d3] = .ok (.f, d, [])) : evE cl (.call f (.cons false e1 (.cons false e2 (.cons false e3 .nil)))) ρ = .ok (.f, d) := by
  rw [e_call, es_cons, h1, es_cons, h2, es_cons, h3, es_nil]
  show (cl f [d1, d2, d3]).bind (fun r => afterCall false r) = _
  rw [h]
  rfl
theorem call3g {cl : Cl} {ρ : List Slot} {f : Nat} {e1 e2 e3 : E} {d1 d2 d3 d : D} (h1 : evE cl e1 ρ = .ok (.f, d1)) (h2 : evE cl e2 ρ = .ok (.v, d2)) (h3 : evE cl e3 ρ = .ok (.v, d3)) (h : cl f [d1, d2, d3] = .ok (.v, d, [])) : evE cl (.call f (.cons false e1 (.cons false e2 (.cons false e3 .nil)))) ρ = .ok (.v, d) := by
  rw [e_call, es_cons, h1, es_cons, h2, es_cons, h3, es_nil]
  show (cl f [d1, d2, d3]).bind (fun r => afterCall false r) = _
  rw [h]
  rfl
theorem tup1_run {cl : Cl} {ρ : List Slot} {e1 : E} {d1 : D} (h1 : evE cl e1 ρ = .ok (.v, d1)) : evE cl (.tup (.cons false e1 .nil)) ρ = .ok (.v, .tup [d1]) := by
  rw [e_tup]
  simp only [es_cons, es_nil, h1, b_ok, st_f, List.cons_append, List.nil_append, so_v, so_nil, List.length_cons, List.length_nil]
  rw [if_pos (by decide)]
theorem for_seq {cl : Cl} {ρ : List Slot} {tg : Tg} {e : E} {b : Ss} {ds : List D} (he : evE cl e ρ = .ok (.f, .lst ds)) : evS cl (.forS tg .seq (.cons false e .nil) b) ρ = unlockO none (loopF cl tg b ds ρ) := by
  have es : evEs cl (.cons false e .nil) ρ = .ok [(.f, .lst ds)] := by rw [es_cons, he]; rfl
  rw [s_for, es]
  rfl
theorem law_true (k : Nat) (hk : 190 ≤ k) (ns : List Int) (hn : ns.length ≤ 1000000) : callF pr (k + 1) 42 [.scr ns] = .ok (.v, .bl true, []) := by
  rw [cf (fn := f42) rfl rfl]
  unfold f42
  obtain ⟨m, rfl⟩ : ∃ m, k = m + 60 := ⟨k - 60, by omega⟩
  obtain ⟨nums, en, h9, hp⟩ := law_numbers (m + 58) ns 0 hn
  obtain ⟨a, ea, hw, hl⟩ := ask_run h9 hp 3 0 (m + 56)
  have hl : (toks a).length ≤ 51 := hl
  have hs : a.size ≤ 60 := by have := size_len a; omega
  have lz := tx_small hw (by omega)
  -- 1
  have e1 := call3g (cl := callF pr (m + 60)) (ρ := [.val (.scr ns), .none, .none, .none, .none, .none, .none, .none, .none, .none, .none, .none, .none, .none, .none, .none, .none, .none]) (f := 34) (e2 := .cst (.int 0)) (e3 := .cst (.int 3)) (call3f (f := 32) (e1 := .var 0) (e2 := .cst (.int 0)) (e3 := .cst (.int 9)) rfl rfl rfl en) rfl rfl ea
  rw [ss_nx (ρ' := [.val (.scr ns), .val a.d, .none, .none, .none, .none, .none, .none, .none, .none, .none, .none, .none, .none, .none, .none, .none, .none]) (by rw [s_asg]; exact (congrArg (fun r => Out.of r _) e1).trans rfl)]
  -- 2
  have ew := written_law a hw (by omega) 0 (m + 60) (by omega) (by omega)
  rw [needB0] at ew
  have e2 := call2 (cl := callF pr (m + 60)) (ρ := [.val (.scr ns), .val a.d, .none, .none, .none, .none, .none, .none, .none, .none, .none, .none, .none, .none, .none, .none, .none, .none]) (f := 35) (e1 := .var 1) (e2 := .cst (.int 0)) rfl rfl ew
  rw [ss_nx (ρ' := [.val (.scr ns), .val a.d, .val (.str (tx a)), .none, .none, .none, .none, .none, .none, .none, .none, .none, .none, .none, .none, .none, .none, .none]) (by rw [s_asg]; exact (congrArg (fun r => Out.of r _) e2).trans rfl)]
  -- 'w x'
  have ci : evE (callF pr (m + 60)) (.cmp .isin (.cst (.str [119, 32, 120])) (.var 2)) [.val (.scr ns), .val a.d, .val (.str (tx a)), .none, .none, .none, .none, .none, .none, .none, .none, .none, .none, .none, .none, .none, .none, .none] = .ok (.v, .bl (inS [119, 32, 120] (tx a))) := rfl
  cases hi : inS [119, 32, 120] (tx a) with
  | true =>
    rw [hi] at ci
    have e3 := call2 (cl := callF pr (m + 60)) (f := 33) (call1 (ρ := [.val (.scr ns), .val a.d, .val (.str (tx a)), .none, .none, .none, .none, .none, .none, .none, .none, .none, .none, .none, .none, .none, .none, .none]) (f := 30) (e1 := .var 2) rfl (read_ask (m + 27) hw hs)) (show evE (callF pr (m + 60)) (.var 1) _ = .ok (.v, a.d) from rfl) (same_ask a hw _ (by omega))
    rw [ss_rt (by rw [if_t (tr_of ci), one_st]; exact ret_v e3)]
    rfl
  | false =>
    rw [hi] at ci
    have hv := no_wx hw hi
    rw [ss_nx (ρ' := [.val (.scr ns), .val a.d, .val (.str (tx a)), .none, .none, .none, .none, .none, .none, .none, .none, .none, .none, .none, .none, .none, .none, .none]) (by rw [if_f (tr_of ci)]; rfl)]
    -- 3
    have e3 := call1f (cl := callF pr (m + 60)) (ρ := [.val (.scr ns), .val a.d, .val (.str (tx a)), .none, .none, .none, .none, .none, .none, .none, .none, .none, .none, .none, .none, .none, .none, .none]) (f := 40) (e1 := .var 2) rfl (law_words (m + 59) hv (by omega))
    have tm := toks_VV hv
    have rn := right_none hv (by omega)
    have er := read_row (m + 27) hw hs
    generalize hws : toks a = ws at *
    rw [ss_nx (ρ' := [.val (.scr ns), .val a.d, .val (.str (tx a)), .own (.lst (ws.map .str)), .none, .none, .none, .none, .none, .none, .none, .none, .none, .none, .none, .none, .none, .none]) (by rw [s_asg]; exact (congrArg (fun r => Out.of r _) e3).trans rfl)]
    -- check
    have v3 : evE (callF pr (m + 60)) (.var 3) [.val (.scr ns), .val a.d, .val (.str (tx a)), .own (.lst (ws.map .str)), .none, .none, .none, .none, .none, .none, .none, .none, .none, .none, .none, .none, .none, .none] = .ok (.b, .lst (ws.map .str)) := rfl
    have lr := law_right (m + 29) (ws := ws) (fun v h => VV_fit (tm v h)) (by omega)
    rw [rn] at lr
    have c38 := eisnn (call1b v3 lr rfl)
    have c33 := enot (call2 (f := 33) (call1 (f := 30) (ejoin v3 (fun v h => VV_VX (tm v h)) (by omega)) er) (show evE (callF pr (m + 60)) (.var 1) _ = .ok (.v, a.d) from rfl) (same_ask a hw _ (by omega)))
    have cc := eor_f c38 c33
    rw [ss_nx (ρ' := [.val (.scr ns), .val a.d, .val (.str (tx a)), .own (.lst (ws.map .str)), .none, .none, .none, .none, .none, .none, .none, .none, .none, .none, .none, .none, .none, .none]) (by rw [if_f (tr_of cc)]; rfl)]
    -- 4
    rw [ss_nx (ρ' := FT ns a.d (tx a) ws .none .none .none .none .none .none .none .none) (by rfl)]
    -- turns
    obtain ⟨s5, s6, s7, s8, s9, s10, s11, s12, el⟩ := turns (m + 60) hk ns hn a.d (tx a) ws tm (by omega) 5 0 .none .none .none .none .none .none .none .none rfl
    have ef := for_rng (cl := callF pr (m + 60)) (e := .cst (.int 5)) (b := TB) (ρ := FT ns a.d (tx a) ws .none .none .none .none .none .none .none .none) (i := 5) (n := 5) (by decide) rfl
    rw [ss_nx (ρ' := FU ns a.d (tx a) ws s5 s6 s7 s8 s9 s10 s11 s12 .none .none) (by
      refine Eq.trans ef ?_
      exact congrArg (unlockO none) el)]
    -- constants
    obtain ⟨s13, s14, ec⟩ := const_loop (m + 59) ns a.d (tx a) ws s5 s6 s7 s8 s9 s10 s11 s12 CL (fun p hp => tc_ok (List.all_eq_true.mp tc_all p hp) (by omega)) .none .none
    have ec2 : evS (callF pr (m + 60)) (.forS (.tup [13, 14]) .seq (.cons false LST .nil) CB) (FU ns a.d (tx a) ws s5 s6 s7 s8 s9 s10 s11 s12 .none .none) = .nx (FU ns a.d (tx a) ws s5 s6 s7 s8 s9 s10 s11 s12 s13 s14) := (for_seq lst_run).trans (congrArg (unlockO none) ec)
    rw [ss_nx ec2]
    -- the end
    have z1 := call2 (f := 33) (call1 (cl := callF pr (m + 60)) (ρ := FU ns a.d (tx a) ws s5 s6 s7 s8 s9 s10 s11 s12 s13 s14) (e1 := .cst (.str [98, 121, 32, 39, 97, 100, 97])) rfl (tc_ok tc_by (k := m + 60) (by omega))) (show evE (callF pr (m + 60)) (.bin .sub (.cst (.int 0)) (.cst (.int 1))) _ = .ok (.v, .int (-1)) from rfl) (same_int (m + 59) (-1))
    have z2 := call2 (f := 33) (call1 (cl := callF pr (m + 60)) (ρ := FU ns a.d (tx a) ws s5 s6 s7 s8 s9 s10 s11 s12 s13 s14) (e1 := .cst (.str [32, 32, 97, 108, 108, 32, 32])) rfl (tc_sp_ok (k := m + 60) (by omega))) (tup1_run (show evE (callF pr (m + 60)) (.cst (.str [97, 108, 108])) _ = .ok (.v, .str [97, 108, 108]) from rfl)) ((bar (w := [97, 108, 108]) (by decide)).sm (m + 60) (by omega))
    rw [one_st, ret_v (eand_t z1 z2)]
    rfl
end K12
end

section
set_option Elab.async false
set_option linter.all false
set_option maxRecDepth 100000
set_option maxHeartbeats 0
/-! K12h: the law's program as data; the head. -/
namespace K12
open PySem PySem.Spec PyProof.Rows L2 Ev
abbrev pw : Program := PySem.Challenge.pw_patchset_k12_asks_with_wrong_words
abbrev rw12 : PySem.W.OpenLaw := PySem.Challenge.rw_patchset_k12_asks_with_wrong_words
def dfs : List Df := pw.main.body.filterMap fun
  | .FunctionDef n a b _ _ _ sc _ _ _ => some ⟨n, a, b, sc⟩
  | _ => none
def nioOf (x : Str) : Nat := if x = "bind" then 2 else if x = "close_bracket" then 2 else 0
def S (s : String) : List Nat := (Str.ofString s).cps.toList
def tS (l : List String) : D := .tup (l.map fun s => .str (S s))
def con : List (Str × D) := [("DIGITS", .str (S "0123456789")), ("MOST_NAMES", .int 6), ("MOST_WORDS", .int 60), ("BARE", tS ["all", "none", "tops"]), ("NAMED", tS ["by", "tag"]), ("PATCHES", tS ["id", "under", "over"]),
  ("LEAVES", tS ["all", "none", "tops", "by", "tag", "id", "under", "over", "file", "text"]), ("AHEAD", tS ["not", "needs"]), ("JOINS", tS ["and", "or"])]
def pd : Pd := { defs := dfs, nio := nioOf, extras := ["sign", "part", "k", "name"], con := con, errs := ["BadValue", "BadText"] }
def inits : List (Str × Str × (Pos × Pos × Pos × Pos × Pos × Pos)) := [("BadValue", "BadValue.__init__", ⟨6, 17, 6, 21⟩, ⟨6, 23, 6, 25⟩, ⟨7, 8, 7, 12⟩, ⟨7, 8, 7, 15⟩, ⟨7, 18, 7, 20⟩, ⟨7, 8, 7, 20⟩), ("BadText", "BadText.__init__", ⟨10, 17, 10, 21⟩, ⟨10, 23, 10, 25⟩, ⟨11, 8, 11, 12⟩, ⟨11, 8, 11, 15⟩, ⟨11, 18, 11, 20⟩, ⟨11, 8, 11, 20⟩)]
def fn : List He.DefD := pd.defs.map Df.dD ++ inits.map fun p => initD p.1 p.2.1 p.2.2
abbrev R : PySem.W.OpenRow := PySem.W.OpenLaw.row rw12
def hk : PySem.W.Hook := He.hookX 5 pd.fa fn [] [] pd.ex
def ob (s : PySem.W.SharedT) : He.AlX := He.obsX 5 pd.fa fn [] [] pd.ex (HandSHeadRun.getT s)
theorem ob_eq (s : PySem.W.SharedT) : ob s = hk.obs s.abs := He.obsX_eq (HandSHeadRun.getT_eq s)
def loose : List Str := (pw.main.scope.names.map (·.1)).filter fun x => !(x == ("law" : Str)) && !(x == ("__name__" : Str))
theorem run (w : World) : HandSHeadRun.RunEq R (PySem.W.view R.prog [62]) hk ob 20000 loose w := by
  intro os
  kernel_rfl
end K12
end

section
set_option Elab.async false
set_option linter.all false
set_option maxRecDepth 100000
set_option maxHeartbeats 0
namespace K12
open PySem PySem.Spec PyProof.Rows L2 Ev
theorem comp_is : pd.defs.map pd.comp = prT.map some := by kernel_rfl
theorem sc_is : pd.defs.all pd.scB = true := by decide +kernel
abbrev KK : Nat := 200
theorem plain : ∀ ns : List Int, ns.length ≤ 63 → ∃ k, callF (prL prT) KK 42 [.scr ns] = .ok (k, .bl true, []) := fun ns h => ⟨.v, law_true 199 (by decide) ns (by omega)⟩
theorem facts {P : Program} {w : World} {K : PySem.W.Frag} {h : Heap} {mg : Str → Option Value} {f : Addr} (X : K.In h) (G : h.Ns mainGlobals mg) (hfa : mg ("law" : Str) = some (.ref f)) (c : He.SaysX pd.fa fn [] [] pd.ex w h K) :
    ∃ fd : FuncData, (∀ (s : Shared) (v : Value), BindsTo s fd ⟨[v], []⟩ [("script", v)]) ∧ ∀ base : Heap, K.In base → base.Ns mainGlobals mg → FnOk P w K mg base CX0 KK f fd ["script"] (spLaw K 63) := by
  have Y : Says pd K mg := says_of X G c (by kernel_rfl)
  have hd : ∃ d, pd.defs[42]? = some d ∧ d.name = ("law" : Str) ∧ d.ps = [("script" : Str)] ∧ plainA d.params = true ∧ pd.nio d.name = 0 := ⟨_, rfl, rfl, rfl, rfl, rfl⟩
  obtain ⟨d, hd, hn, hp, ha, hio⟩ := hd
  have m := List.mem_of_getElem? hd
  obtain ⟨fd, F⟩ := Y.fn d m
  have e := Y.glo d m
  rw [hn] at e
  have e := hfa.symm.trans e
  cases e
  have b := FunD.bindsA (ps := ["script"]) F fun kV doc pm an cdv ct us hl => by
    rw [plainA_ok ha]
    have := bind_plain (x := d.name) (qual := d.name) (body := d.body) (scope := d.scope) (kV := kV) (doc := doc) (pm := pm) (an := an) (cdv := cdv) (ct := ct) (as := d.params.args) (us := us) (by show d.ps.Nodup; rw [hp]; decide) (by show us.length = d.ps.length; rw [hp]; exact hl)
    rw [this]
    show pure (d.ps.zip us) = _
    rw [hp]
  refine ⟨fd, fun s v => b s [v] rfl, fun base _ _ => ?_⟩
  have ok := all_ok (P := P) (w := w) (base := base) comp_is sc_is Y KK 42 d hd fd F
  rw [hp, hio] at ok
  have e2 : He.fAd K (d.name, none) = He.ga K "law" := by rw [hn]; rfl
  rw [e2] at ok
  exact fn_cx0 ok (law_sp plain)
end K12
open PySem PySem.W PySem.Calls PyProof.Rows
theorem PySem.Challenge.cw_patchset_k12_asks_with_wrong_words_holds : PySem.Challenge.rw_patchset_k12_asks_with_wrong_words.Holds := by
  w_on; o_law
  refine HandSHeadRun.head_any (r := OpenLaw.row PySem.Challenge.rw_patchset_k12_asks_with_wrong_words) (q := view (OpenLaw.row PySem.Challenge.rw_patchset_k12_asks_with_wrong_words).prog [62]) (H := K12.hk) (ob := K12.ob) (M := 20000) (loose := K12.loose) (d := HandSHeadRun.topDef (OpenLaw.row PySem.Challenge.rw_patchset_k12_asks_with_wrong_words).prog 62) (kwd := []) K12.ob_eq
    (by kernel_rfl) (fun s => by kernel_rfl) K12.run (by kernel_rfl) (by kernel_rfl) (by kernel_rfl) (by rfl) (by first | assumption | decide +kernel) (by decide +kernel) ⟨rfl, rfl, rfl, rfl, rfl, by decide +kernel⟩ ?hw ?hc
  case hw => w_witness2
  case hc =>
    refine L2.walk_ofE (l := PySem.Challenge.rw_patchset_k12_asks_with_wrong_words) (n := 63) (k := K12.KK) (x := "script") (CX := L2.CX0) rfl (by decide) (by kernel_rfl) ⟨rfl, by decide, by decide⟩ ?F (fun _ _ _ _ z => z)
    intro w mg fa h Y G hmg0
    obtain ⟨K, KX, c⟩ := Y
    have hmg : mg ("law" : PySem.Str) = some (.ref fa) := by
      have e : (HandSHeadRun.topDef (OpenLaw.row PySem.Challenge.rw_patchset_k12_asks_with_wrong_words).prog 62).name = ("law" : PySem.Str) := by kernel_rfl
      rw [← e]
      exact hmg0
    obtain ⟨fd, hb, hF⟩ := K12.facts (P := (PySem.Challenge.rw_patchset_k12_asks_with_wrong_words).prog) (w := w) KX G hmg c
    refine ⟨K, fd, Ev.spLaw K 63, KX, hb, fun H a ns hl hO hS => ⟨a, ns, rfl, hl, ?_, fun v H' e => e⟩, hF⟩
    rcases hS with (hS | hS) | hS
    · rcases hO a with z | ⟨o, xs, z⟩
      · rw [z] at hS; cases hS
      · rw [z] at hS; cases hS
    · exact .inl hS
    · exact .inr hS
end
