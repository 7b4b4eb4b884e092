import PyProof.Rows.All
import HandS.ForMost
import HandS.Exc
import HandS.TryMany
import HandS.Wide
import HandS.TupAny
import HandS.Deep
import HandS.Dict
import HandS.StrMore
import HandS.Flow
import HandS.Star
import HandS.ExcOwn
import HandS.RaiseMore
import HandS.More
import PyProof.ReprRoads
import HandS.Conv
import HandS.Iter
import HandS.Small
import HandS.Style
import HandS.Property
import HandS.MakeKwOnly
import HandS.Ends
import HandS.EndBits
import HandS.Head0
import HandS.Head1
import HandS.Head2
import HandS.HeadHook1
import HandS.HeadHook2
import PyProof.StrLawsRepr
import PySem.Challenge.RW_keptworths_k02_tables_told
set_option Elab.async false
section
set_option linter.all false
set_option maxRecDepth 100000
/-! QA1: values, slots, the small language (IR). -/
namespace QL
open PySem

abbrev D := PyData

/-- a value with what it owns: dat: data that never changes from now on (shared); sl, lst: an own list; tup: a tuple with own things in it; dic, set: own; ins: an instance (fz: shared, never to change); scr: the script -/
inductive M where
  | dat (d : D)
  | sl (ds : List D)
  | lst (ms : List M)
  | tup (ms : List M)
  | dic (kvs : List (D × D))
  | set (ds : List D)
  | ins (fz : Bool) (c : Nat) (ks : List Nat) (ms : List M)
  | scr (is : List Int)

mutual
def M.pyO : M → Option D
  | .dat d => some d
  | .sl ds => some (.list ds)
  | .lst ms => (M.pys ms).map .list
  | .tup ms => (M.pys ms).map .tuple
  | .dic kvs => some (.dict kvs)
  | .set _ => none
  | .ins _ _ _ _ => none
  | .scr _ => none
def M.pys : List M → Option (List D)
  | [] => some []
  | m :: r => match m.pyO, M.pys r with
    | some d, some ds => some (d :: ds)
    | _, _ => none
end
mutual
def M.fzO : M → Option M
  | .dat d => some (.dat d)
  | .sl ds => some (.dat (.list ds))
  | .lst ms => (M.pys ms).map fun ds => .dat (.list ds)
  | .tup ms => (M.pys ms).map fun ds => .dat (.tuple ds)
  | .dic kvs => some (.dat (.dict kvs))
  | .set _ => none
  | .ins _ c ks ms => (M.fzs ms).map (.ins true c ks)
  | .scr is => some (.scr is)
def M.fzs : List M → Option (List M)
  | [] => some []
  | m :: r => match m.fzO, M.fzs r with
    | some d, some ds => some (d :: ds)
    | _, _ => none
end
/-- shared already -/
def M.isFz : M → Bool
  | .dat _ => true
  | .ins true _ _ _ => true
  | .scr _ => true
  | _ => false
/-- all of a list are data -/
def dats : List M → Option (List D)
  | [] => some []
  | .dat d :: r => (dats r).map (d :: ·)
  | _ :: _ => none
def mkL (ms : List M) : M := match dats ms with
  | some ds => .sl ds
  | none => .lst ms
def mkT (ms : List M) : M := match dats ms with
  | some ds => .dat (.tuple ds)
  | none => .tup ms
def ixOf (k : Nat) : List Nat → Option Nat
  | [] => none
  | j :: r => match Nat.beq j k with
    | true => some 0
    | false => (ixOf k r).map (· + 1)

/-- what an expression gives, or a slot holds: v: itself (own or shared); al: what stands at a path within a slot; exc: a caught exception (a slot's); exg: one whose value was taken; xr: the slot of one -/
inductive SV where
  | v (m : M)
  | al (i : Nat) (p : List Nat)
  | exc (c : Nat) (m : M)
  | exg (c : Nat)
  | xr (i : Nat)
abbrev Env := List (Option SV)

/-! ### the language -/
inductive BOp where
  | add | sub | mul | fdiv | mod | pow
  deriving DecidableEq
inductive COp where
  | eq | ne | lt | le | gt | ge | isn | notn | isin | notin
  deriving DecidableEq
inductive Prim where
  | len | lst | tup | dic | set | int | abs | str | repr | max2 | min2 | max1 | min1 | maxd | sorted | sortedstr | any | all | lst0 | dic0 | set0
  deriving DecidableEq
/-- methods of built-in types -/
inductive BM where
  | append | extend | pop | insert | clear | reverse | add | get | index | count | join | split | partition | endswith | upper | replace
  deriving DecidableEq
inductive Tg where
  | n (i : Nat)
  | t (l : List Tg)

mutual
inductive E where
  | c (d : D)
  | x (i : Nat)
  | bin (o : BOp) (a b : E)
  | neg (a : E)
  | nt (a : E)
  | and (a b : E)
  | or (a b : E)
  | cmp (o : COp) (a b : E)
  | chain (o o' : COp) (a b c : E)
  | ife (t a b : E)
  | tup (es : Es)
  | lst (es : Es)
  | dic (ks vs : Es)
  | ix (a i : E)
  | sl (a : E) (lo hi : EO)
  | fld (a : E) (f : Nat)
  | call (f : Nat) (es : Es) (perm : List Nat)
  | make (c : Nat) (es : Es) (perm : List Nat)
  | bm (a : E) (m : BM) (es : Es)
  | um (a : E) (m : Nat) (es : Es) (perm : List Nat)
  | app (a : E) (es : Es) (perm : List Nat)
  | prim (p : Prim) (es : Es)
  | isi (a : E) (cs : List Nat)
  | fstr (es : Es)
  | comp (own : List Nat) (t : Tg) (it : It) (cond : EO) (e : E)
  | comp2 (own : List Nat) (t : Tg) (it : It) (cond : EO) (own' : List Nat) (t' : Tg) (it' : It) (cond' : EO) (e : E)
  | dcomp (own : List Nat) (t : Tg) (it : It) (cond : EO) (k e : E)
  | dcomp2 (own : List Nat) (t : Tg) (it : It) (cond : EO) (own' : List Nat) (t' : Tg) (it' : It) (cond' : EO) (k e : E)
inductive Es where
  | nil
  | cons (star : Bool) (e : E) (r : Es)
inductive EO where
  | none
  | some (e : E)
inductive It where
  | e (e : E)
  | range (es : Es)
  | enum (e : E)
  | zip (a b : E)
  | rev (e : E)
  | vals (e : E)
end
mutual
inductive S where
  | asg (t : Tg) (e : E)
  | par (ts : List Tg) (es : Es)
  | setIx (a i e : E)
  | setFld (a : E) (f : Nat) (e : E)
  | aug (i : Nat) (o : BOp) (e : E)
  | ex (e : E)
  | ifs (t : E) (a b : Ss)
  | for (t : Tg) (it : It) (b : Ss)
  | while (t : E) (b : Ss)
  | ret (e : E)
  | retN
  | raise (c : Nat) (e : E)
  | brk
  | cnt
  | pass
  | tr (b : Ss) (hs : Hs)
  | wipe (l : List Nat) (s : S)
inductive Ss where
  | nil
  | cons (s : S) (r : Ss)
inductive Hs where
  | nil
  | cons (cs : List Nat) (slot : Option Nat) (b : Ss) (r : Hs)
end
end QL
end
section
set_option linter.all false
set_option maxRecDepth 100000
/-! QA2: what the small language does with values and slots; each step hands what comes to what follows (K). -/
namespace QL
open PySem
open L2 (ixN atI)

abbrev KS := SV → Env → Prop
abbrev XP := Nat → M → Env → Prop
def condW : Bool → Prop → Prop → Prop
  | true, A, _ => A
  | false, _, B => B
theorem cond_split {b : Bool} {A B : Prop} (h1 : b = true → A) (h2 : b = false → B) : condW b A B := by
  cases b
  · exact h2 rfl
  · exact h1 rfl
theorem cond_yes {b : Bool} {A B : Prop} (h : b = true) (h1 : A) : condW b A B := by
  subst h; exact h1
theorem cond_no {b : Bool} {A B : Prop} (h : b = false) (h1 : B) : condW b A B := by
  subst h; exact h1

/-! ### slots -/
def nthW : Env → Nat → (SV → Prop) → Prop
  | [], _, _ => False
  | none :: _, 0, _ => False
  | some s :: _, 0, K => K s
  | _ :: r, n + 1, K => nthW r n K
def setW (x : Option SV) : Nat → Env → (Env → Prop) → Prop
  | _, [], _ => False
  | 0, _ :: r, K => K (x :: r)
  | n + 1, s :: r, K => setW x n r fun r' => K (s :: r')
def pushW (x : Option SV) : Env → (Env → Prop) → Prop
  | [], K => K [x]
  | s :: r, K => pushW x r fun r' => K (s :: r')
def popW : Env → (Option SV → Env → Prop) → Prop
  | [], _ => False
  | [s], K => K s []
  | a :: b :: r, K => popW (b :: r) fun s r' => K s (a :: r')
def lastW : Env → (SV → Prop) → Prop
  | [], _ => False
  | [some s], K => K s
  | [none], _ => False
  | _ :: b :: r, K => lastW (b :: r) K
def forceW : Option SV → (Option SV → Prop) → Prop
  | none, K => K none
  | some (.v m), K => K (some (.v m))
  | some (.al i p), K => K (some (.al i p))
  | some (.exc c m), K => K (some (.exc c m))
  | some (.exg c), K => K (some (.exg c))
  | some (.xr i), K => K (some (.xr i))
def mapW (f : Option SV → Option SV) : Env → (Env → Prop) → Prop
  | [], K => K []
  | s :: r, K => forceW (f s) fun s' => mapW f r fun r' => K (s' :: r')
/-- p lies strictly ahead of q -/
def above : List Nat → List Nat → Bool
  | [], [] => false
  | [], _ :: _ => true
  | a :: p, b :: q => match Nat.beq a b with
    | true => above p q
    | false => false
  | _ :: _, [] => false
def clr (i : Nat) : Option SV → Option SV
  | some (.al j q) => match Nat.beq j i with
    | true => none
    | false => some (.al j q)
  | s => s
/-- p lies ahead of q, or is q -/
def aheadEq : List Nat → List Nat → Bool
  | [], _ => true
  | a :: p, b :: q => match Nat.beq a b with
    | true => aheadEq p q
    | false => false
  | _ :: _, [] => false
/-- behind a change at (i, p) -/
def clrB (i : Nat) (p : List Nat) : Option SV → Option SV
  | some (.al j q) => match !Nat.beq j i || aheadEq q p with
    | true => some (.al j q)
    | false => none
  | s => s
/-- behind (i, p) being shared -/
def clrU (i : Nat) (p : List Nat) : Option SV → Option SV
  | some (.al j q) => match Nat.beq j i && above p q with
    | true => none
    | false => some (.al j q)
  | s => s
/-- one step down -/
def childW (k : Nat) : M → (M → Prop) → Prop
  | .dat (.list ds), K => ∃ d, ds[k]? = some d ∧ K (.dat d)
  | .dat (.tuple ds), K => ∃ d, ds[k]? = some d ∧ K (.dat d)
  | .sl ds, K => ∃ d, ds[k]? = some d ∧ K (.dat d)
  | .lst ms, K => ∃ m, ms[k]? = some m ∧ K m
  | .tup ms, K => ∃ m, ms[k]? = some m ∧ K m
  | .ins _ _ ks ms, K => match ixOf k ks with
    | some i => match ms[i]? with
      | some m => K m
      | none => False
    | none => False
  | _, _ => False
/-- one step down, of an own thing -/
def stepW (k : Nat) : M → (M → Prop) → Prop
  | .sl ds, K => ∃ d, ds[k]? = some d ∧ K (.dat d)
  | .lst ms, K => ∃ m, ms[k]? = some m ∧ K m
  | .tup ms, K => ∃ m, ms[k]? = some m ∧ K m
  | .ins false _ ks ms, K => match ixOf k ks with
    | some i => match ms[i]? with
      | some m => K m
      | none => False
    | none => False
  | _, _ => False
def setLW (n : M) : Nat → List M → (List M → Prop) → Prop
  | _, [], _ => False
  | 0, _ :: r, K => K (n :: r)
  | i + 1, m :: r, K => setLW n i r fun r' => K (m :: r')
def setChildW (k : Nat) (n : M) : M → (M → Prop) → Prop
  | .lst ms, K => k < ms.length ∧ K (.lst (ms.set k n))
  | .tup ms, K => k < ms.length ∧ K (.tup (ms.set k n))
  | .ins false c ks ms, K => match ixOf k ks with
    | some i => setLW n i ms fun ms' => K (.ins false c ks ms')
    | none => False
  | _, _ => False
def atW : List Nat → M → (M → Prop) → Prop
  | [], m, K => K m
  | k :: p, m, K => stepW k m fun c => atW p c K
def setAtW (n : M) : List Nat → M → (M → Prop) → Prop
  | [], _, K => K n
  | k :: p, m, K => stepW k m fun c => setAtW n p c fun c' => setChildW k c' m K
def getW (σ : Env) : SV → (M → Prop) → Prop
  | .v m, K => K m
  | .al i p, K => nthW σ i fun s => match s with
    | .v m => atW p m K
    | _ => False
  | _, _ => False
def setMW (σ : Env) (i : Nat) (p : List Nat) (n : M) (K : Env → Prop) : Prop := nthW σ i fun s => match s with
  | .v m => setAtW n p m fun m' => setW (some (.v m')) i σ K
  | _ => False
def slotW (i : Nat) (p : List Nat) (m : M) (K : SV → Prop) : Prop := match m.isFz with
  | true => K (.v m)
  | false => K (.al i p)
/-- an alias of a thing that is shared by now is the thing -/
def normW (σ : Env) : SV → (SV → Prop) → Prop
  | .al i p, K => getW σ (.al i p) fun m => slotW i p m K
  | .v m, K => K (.v m)
  | _, _ => False
def readW (σ : Env) (i : Nat) (K : SV → Prop) : Prop := nthW σ i fun s => match s with
  | .v m => slotW i [] m K
  | .al j p => normW σ (.al j p) K
  | .exc _ _ => K (.xr i)
  | .exg _ => K (.xr i)
  | .xr _ => False
/-- x = sv -/
def assignW (i : Nat) (sv : SV) (σ : Env) (K : Env → Prop) : Prop := match sv with
  | .v m => mapW (clr i) σ fun σ1 => setW (some (.v m)) i σ1 K
  | .al j p => match Nat.beq j i with
    | true => getW σ (.al j p) fun m => mapW (clr i) σ fun σ1 => setW (some (.v m)) i σ1 K
    | false => mapW (clr i) σ fun σ1 => setW (some (.al j p)) i σ1 K
  | _ => False

/-! ### views; what is kept -/
def pyW : M → (D → Prop) → Prop
  | .dat d, K => K d
  | .sl ds, K => K (.list ds)
  | .lst ms, K => ∃ ds, M.pys ms = some ds ∧ K (.list ds)
  | .tup ms, K => ∃ ds, M.pys ms = some ds ∧ K (.tuple ds)
  | .dic kvs, K => K (.dict kvs)
  | _, _ => False
def settleW : M → (M → Prop) → Prop
  | .dat d, K => K (.dat d)
  | .sl ds, K => K (.sl ds)
  | .lst ms, K => ∃ ds, M.pys ms = some ds ∧ K (.sl ds)
  | .tup ms, K => ∃ ds, M.pys ms = some ds ∧ K (.dat (.tuple ds))
  | .dic kvs, K => K (.dic kvs)
  | .set ds, K => K (.set ds)
  | .ins z c ks ms, K => K (.ins z c ks ms)
  | .scr is, K => K (.scr is)
def fzW : M → (M → Prop) → Prop
  | .dat d, K => K (.dat d)
  | .sl ds, K => K (.dat (.list ds))
  | .lst ms, K => ∃ ds, M.pys ms = some ds ∧ K (.dat (.list ds))
  | .tup ms, K => ∃ ds, M.pys ms = some ds ∧ K (.dat (.tuple ds))
  | .dic kvs, K => K (.dat (.dict kvs))
  | .set _, _ => False
  | .ins _ c ks ms, K => ∃ fs, M.fzs ms = some fs ∧ K (.ins true c ks fs)
  | .scr is, K => K (.scr is)
def frzSW (sv : SV) (σ : Env) (K : M → Env → Prop) : Prop := match sv with
  | .v m => fzW m fun f => K f σ
  | .al i p => getW σ (.al i p) fun m => fzW m fun f => setMW σ i p f fun σ' => mapW (clrU i p) σ' fun σ'' => K f σ''
  | _ => False
def putW (dp : Bool) (sv : SV) (σ : Env) (K : M → Env → Prop) : Prop := match sv with
  | .v m => match m.isFz || dp with
    | true => K m σ
    | false => fzW m fun f => K f σ
  | .al i p => frzSW (.al i p) σ K
  | _ => False
def nested : M → Bool
  | .lst _ => true
  | .tup _ => true
  | _ => false
def settleSW (sv : SV) (σ : Env) (K : M → Env → Prop) : Prop := match sv with
  | .v m => settleW m fun f => K f σ
  | .al i p => getW σ (.al i p) fun m => match nested m with
    | true => settleW m fun f => setMW σ i p f fun σ' => mapW (clrU i p) σ' fun σ'' => K f σ''
    | false => K m σ
  | _ => False
def signs (x : Str) : List D := x.cps.toList.map fun c => .str ⟨#[c]⟩
def itemsW : M → (List D → Prop) → Prop
  | .dat (.list ds), K => K ds
  | .dat (.tuple ds), K => K ds
  | .dat (.str x), K => K (signs x)
  | .dat (.dict kvs), K => K (kvs.map (·.1))
  | .sl ds, K => K ds
  | .dic kvs, K => K (kvs.map (·.1))
  | _, _ => False
def viewW (sv : SV) (σ : Env) (K : D → Prop) : Prop := getW σ sv fun m => pyW m K

/-! ### operators -/
def pTrue : D → Bool
  | .none => false
  | .bool b => b
  | .int i => i != 0
  | .str x => x.length != 0
  | .list ds => !ds.isEmpty
  | .tuple ds => !ds.isEmpty
  | .dict kvs => !kvs.isEmpty
def mTruthW : M → (Bool → Prop) → Prop
  | .dat d, K => K (pTrue d)
  | .sl ds, K => K (!ds.isEmpty)
  | .lst ms, K => K (!ms.isEmpty)
  | .tup ms, K => K (!ms.isEmpty)
  | .dic kvs, K => K (!kvs.isEmpty)
  | _, _ => False
def truthW (x : SV) (σ : Env) (K : Bool → Prop) : Prop := getW σ x fun m => mTruthW m K
def isList : M → Bool
  | .dat (.list _) => true
  | .sl _ => true
  | .lst _ => true
  | _ => false
def isTup : M → Bool
  | .dat (.tuple _) => true
  | .tup _ => true
  | _ => false
def seqW (m : M) (K : List D → Prop) : Prop := match isList m || isTup m with
  | true => itemsW m K
  | false => False
def listW (m : M) (K : List D → Prop) : Prop := match isList m with
  | true => itemsW m K
  | false => False
def intW (o : BOp) (i j : Int) (K : Int → Prop) : Prop := match o with
  | .add => K (i + j)
  | .sub => K (i - j)
  | .mul => i.natAbs.log2 + j.natAbs.log2 < 100000000 ∧ K (i * j)
  | .fdiv => (0 < j ∧ j.natAbs.log2 < 9000) ∧ K (i / j)
  | .mod => 0 < j ∧ K (i % j)
  | .pow => (0 ≤ j ∧ j ≤ 1000 ∧ i.natAbs.log2 < 100000) ∧ K (i ^ j.toNat)
/-- of settled things -/
def binW (o : BOp) (a b : M) (K : M → Prop) : Prop := match a, b with
  | .dat (.int i), .dat (.int j) => intW o i j fun k => K (.dat (.int k))
  | .dat (.str x), .dat (.str y) => match o with
    | .add => x.length + y.length ≤ 16777216 ∧ K (.dat (.str (x ++ y)))
    | _ => False
  | a, b => match o with
    | .add => match isList a && isList b with
      | true => itemsW a fun ds => itemsW b fun es => ds.length + es.length ≤ 16777216 ∧ K (.sl (ds ++ es))
      | false => match isTup a && isTup b with
        | true => itemsW a fun ds => itemsW b fun es => ds.length + es.length ≤ 16777216 ∧ K (.dat (.tuple (ds ++ es)))
        | false => False
    | .mul => match a, b with
      | .sl ds, .dat (.int k) => (0 ≤ k ∧ k < 1000000 ∧ ds.length * k.toNat ≤ 16777216) ∧ K (.sl (List.replicate k.toNat ds).flatten)
      | _, _ => False
    | _ => False
mutual
def dep : D → Nat
  | .list ds => depAll ds + 1
  | .tuple ds => depAll ds + 1
  | .dict _ => 1000
  | _ => 0
def depAll : List D → Nat
  | [] => 0
  | d :: r => max (dep d) (depAll r)
end
/-- may be compared -/
def okD (d : D) : Bool := Nat.ble (dep d) 64
mutual
/-- may be a key -/
def hashD : D → Bool
  | .list _ => false
  | .dict _ => false
  | .tuple ds => hashAll ds
  | _ => true
def hashAll : List D → Bool
  | [] => true
  | d :: r => hashD d && hashAll r
end
def eqW (a b : D) (K : Bool → Prop) : Prop := okD a = true ∧ okD b = true ∧ K (PyData.eqv a b)
def dget (kvs : List (D × D)) (k : D) : Option D := (kvs.find? fun p => PyData.eqv p.1 k).map (·.2)
def dput (kvs : List (D × D)) (k v : D) : List (D × D) :=
  if (dget kvs k).isSome then kvs.map fun p => if PyData.eqv p.1 k then (p.1, v) else p else kvs ++ [(k, v)]
def keyD (d : D) : Bool := hashD d && okD d
/-- a dict's key (ints and texts, so far) -/
def keyK : D → Bool
  | .int _ => true
  | .str _ => true
  | _ => false
def inW (x : D) (m : M) (K : Bool → Prop) : Prop := match m with
  | .dat (.str y) => match x with
    | .str z => K (!(Builtin.Str.occurrences y z 0 y.length 1).isEmpty)
    | _ => False
  | .dic kvs => keyK x = true ∧ K (dget kvs x).isSome
  | .dat (.dict kvs) => keyK x = true ∧ K (dget kvs x).isSome
  | .set ds => keyD x = true ∧ K (ds.any fun z => PyData.eqv z x)
  | m => pyW m fun d => match d with
    | .list ds => okD x = true ∧ okD (.list ds) = true ∧ K (ds.any fun z => PyData.eqv z x)
    | .tuple ds => okD x = true ∧ okD (.tuple ds) = true ∧ K (ds.any fun z => PyData.eqv z x)
    | _ => False
def isNoneD : D → Bool
  | .none => true
  | _ => false
def isNoneM : M → Bool
  | .dat d => isNoneD d
  | _ => false
def intCmpW (o : COp) (i j : Int) (K : Bool → Prop) : Prop := match o with
  | .lt => K (decide (i < j))
  | .le => K (decide (i ≤ j))
  | .gt => K (decide (j < i))
  | .ge => K (decide (j ≤ i))
  | _ => False
def cmpW (o : COp) (a b : M) (K : Bool → Prop) : Prop := match o with
  | .eq => pyW a fun x => pyW b fun y => eqW x y K
  | .ne => pyW a fun x => pyW b fun y => eqW x y fun k => K (!k)
  | .isn => match b with
    | .dat .none => K (isNoneM a)
    | _ => False
  | .notn => match b with
    | .dat .none => K (!isNoneM a)
    | _ => False
  | .isin => pyW a fun x => inW x b K
  | .notin => pyW a fun x => inW x b fun k => K (!k)
  | o => match a, b with
    | .dat (.int i), .dat (.int j) => intCmpW o i j K
    | _, _ => False
def cut {α : Type} (xs : List α) (lo hi : Option Int) : List α := (xs.drop (HT.sIx xs.length 0 lo)).take (HT.sIx xs.length xs.length hi - HT.sIx xs.length 0 lo)
def cutStr (z : Str) (lo hi : Option Int) : Str := ⟨(cut z.cps.toList lo hi).toArray⟩
def slW (m : M) (lo hi : Option Int) (K : M → Prop) : Prop := match m with
  | .dat (.list ds) => K (.sl (cut ds lo hi))
  | .sl ds => K (.sl (cut ds lo hi))
  | .dat (.tuple ds) => K (.dat (.tuple (cut ds lo hi)))
  | .dat (.str x) => K (.dat (.str (cutStr x lo hi)))
  | _ => False
def mLenW : M → (Nat → Prop) → Prop
  | .dat (.list ds), K => K ds.length
  | .dat (.tuple ds), K => K ds.length
  | .dat (.str x), K => K x.length
  | .dat (.dict kvs), K => K kvs.length
  | .sl ds, K => K ds.length
  | .lst ms, K => K ms.length
  | .tup ms, K => K ms.length
  | .dic kvs, K => K kvs.length
  | .set ds, K => K ds.length
  | .scr is, K => K is.length
  | _, _ => False
/-- x[i] of a built-in container: a path's step, or a value -/
def ixW (m : M) (i : D) (Kp : Nat → Prop) (Kv : D → Prop) : Prop := match m, i with
  | .dat (.str x), .int k => ∃ c, atI x.cps.toList k = some c ∧ Kv (.str ⟨#[c]⟩)
  | .dic kvs, k => keyK k = true ∧ ∃ v, dget kvs k = some v ∧ Kv v
  | .dat (.dict kvs), k => keyK k = true ∧ ∃ v, dget kvs k = some v ∧ Kv v
  | .dat (.list ds), .int k => ∃ d, atI ds k = some d ∧ Kv d
  | .dat (.tuple ds), .int k => ∃ d, atI ds k = some d ∧ Kv d
  | .sl ds, .int k => ∃ d, atI ds k = some d ∧ Kv d
  | .scr is, .int k => ∃ i, atI is k = some i ∧ Kv (.int i)
  | .lst ms, .int k => ∃ j, ixN ms.length k = some j ∧ Kp j
  | .tup ms, .int k => ∃ j, ixN ms.length k = some j ∧ Kp j
  | _, _ => False

/-! ### built-in functions, of settled things -/
def intsOf : List D → Option (List Int)
  | [] => some []
  | .int i :: r => (intsOf r).map (i :: ·)
  | _ :: _ => none
def strsOf : List D → Option (List Str)
  | [] => some []
  | .str i :: r => (strsOf r).map (i :: ·)
  | _ :: _ => none
def boolsOf : List D → Option (List Bool)
  | [] => some []
  | .bool i :: r => (boolsOf r).map (i :: ·)
  | _ :: _ => none
def pairsOf : List D → Option (List (D × D))
  | [] => some []
  | .tuple [k, v] :: r => if keyK k then (pairsOf r).map ((k, v) :: ·) else none
  | _ :: _ => none
def setPut (ds : List D) (x : D) : List D := if ds.any fun z => PyData.eqv z x then ds else ds ++ [x]
def dputs (kvs : List (D × D)) : List (D × D) := kvs.foldl (fun a p => dput a p.1 p.2) []
def maxI : Int → List Int → Int
  | m, [] => m
  | m, x :: r => maxI (if x > m then x else m) r
def minI : Int → List Int → Int
  | m, [] => m
  | m, x :: r => minI (if x < m then x else m) r
def strLe (a b : Str) : Bool := !decide (b.cps.toList < a.cps.toList)
def intW1 (ds : List D) (K : List Int → Prop) : Prop := ∃ is, intsOf ds = some is ∧ K is
def isDisp : D → Bool
  | .dict _ => false
  | _ => true
def okShow (d : D) : Prop := isDisp d = true ∧ d.showable = true ∧ okD d = true ∧ d.shown.length ≤ 16777216
def intP (m : M) (K : M → Prop) : Prop := match m with
  | .dat (.int i) => K (.dat (.int i))
  | .dat (.bool b) => K (.dat (.int (if b then 1 else 0)))
  | _ => False
def absP (m : M) (K : M → Prop) : Prop := match m with
  | .dat (.int i) => K (.dat (.int (if i < 0 then -i else i)))
  | _ => False
def strP (m : M) (K : M → Prop) : Prop := match m with
  | .dat (.int i) => (i.natAbs.log2 < 1900 ∧ (Str.ofString (toString i)).length ≤ 16777216) ∧ K (.dat (.str (toString i)))
  | .dat (.str x) => K (.dat (.str x))
  | _ => False
def keysP (m : M) (K : M → Prop) : Prop := match m with
  | .dic kvs => K (.sl (kvs.map (·.1)))
  | .dat (.dict kvs) => K (.sl (kvs.map (·.1)))
  | m => seqW m fun ds => K (.sl ds)
def dicP (m : M) (K : M → Prop) : Prop := match m with
  | .dic kvs => K (.dic kvs)
  | .dat (.dict kvs) => K (.dic kvs)
  | m => seqW m fun ds => ∃ kvs, pairsOf ds = some kvs ∧ K (.dic (dputs kvs))
def sortP (m : M) (K : M → Prop) : Prop := match m with
  | .set ds => ∃ xs, strsOf ds = some xs ∧ K (.sl ((xs.mergeSort strLe).map .str))
  | m => listW m fun ds => ∃ xs, strsOf ds = some xs ∧ K (.sl ((xs.mergeSort strLe).map .str))
def prim1W (p : Prim) (m : M) (K : M → Prop) : Prop := match p with
  | .lst => keysP m K
  | .tup => seqW m fun ds => K (.dat (.tuple ds))
  | .set => seqW m fun ds => hashAll ds = true ∧ Nat.ble (depAll ds) 64 = true ∧ K (.set (ds.foldl setPut []))
  | .dic => dicP m K
  | .int => intP m K
  | .abs => absP m K
  | .str => strP m K
  | .repr => pyW m fun d => okShow d ∧ K (.dat (.str d.shown))
  | .max1 => listW m fun ds => ∃ i r, intsOf ds = some (i :: r) ∧ K (.dat (.int (maxI i r)))
  | .min1 => listW m fun ds => ∃ i r, intsOf ds = some (i :: r) ∧ K (.dat (.int (minI i r)))
  | .any => listW m fun ds => ∃ bs, boolsOf ds = some bs ∧ K (.dat (.bool (bs.any id)))
  | .all => listW m fun ds => ∃ bs, boolsOf ds = some bs ∧ K (.dat (.bool (bs.all id)))
  | .sorted => sortP m K
  | _ => False
def int2P (f : Int → Int → Int) (m n : M) (K : M → Prop) : Prop := match m, n with
  | .dat (.int i), .dat (.int j) => K (.dat (.int (f i j)))
  | _, _ => False
def maxdP (m n : M) (K : M → Prop) : Prop := match n with
  | .dat (.int d) => listW m fun ds => ∃ is, intsOf ds = some is ∧ K (.dat (.int (match is with
    | [] => d
    | i :: r => maxI i r)))
  | _ => False
def prim2W (p : Prim) (m n : M) (K : M → Prop) : Prop := match p with
  | .max2 => int2P (fun i j => if j > i then j else i) m n K
  | .min2 => int2P (fun i j => if j < i then j else i) m n K
  | .maxd => maxdP m n K
  | _ => False
def prim0W (p : Prim) (K : M → Prop) : Prop := match p with
  | .lst0 => K (.sl [])
  | .dic0 => K (.dic [])
  | .set0 => K (.set [])
  | _ => False
def primW (p : Prim) (ms : List M) (K : M → Prop) : Prop := match ms with
  | [] => prim0W p K
  | [m] => prim1W p m K
  | [m, n] => prim2W p m n K
  | _ => False

/-! ### methods of built-in types -/
def insAt {α : Type} (xs : List α) (k : Int) (x : α) : List α := xs.take k.toNat ++ [x] ++ xs.drop k.toNat
/-- an own list with one more thing -/
def addL (ds : List D) : M → M
  | .dat d => .sl (ds ++ [d])
  | m => .lst (ds.map .dat ++ [m])
def insL (ds : List D) (k : Int) : M → M
  | .dat d => .sl (insAt ds k d)
  | m => .lst (insAt (ds.map .dat) k m)
def setL (ds : List D) (j : Nat) : M → M
  | .dat d => .sl (ds.set j d)
  | m => .lst ((ds.map .dat).set j m)
def appP (m a : M) (K : M → M → Prop) : Prop := match m with
  | .sl ds => ds.length < 16777216 ∧ K (.dat .none) (addL ds a)
  | .lst ms => ms.length < 16777216 ∧ K (.dat .none) (.lst (ms ++ [a]))
  | _ => False
def extP (m a : M) (K : M → M → Prop) : Prop := match m with
  | .sl ds => listW a fun es => ds.length + es.length ≤ 16777216 ∧ K (.dat .none) (.sl (ds ++ es))
  | .lst ms => listW a fun es => ms.length + es.length ≤ 16777216 ∧ K (.dat .none) (.lst (ms ++ es.map .dat))
  | _ => False
def pop0P (m : M) (K : M → M → Prop) : Prop := match m with
  | .sl ds => ∃ d, ds[ds.length - 1]? = some d ∧ K (.dat d) (.sl ds.dropLast)
  | .lst ms => ∃ e, ms[ms.length - 1]? = some e ∧ K e (.lst ms.dropLast)
  | _ => False
def popAtP (m : M) (i : Int) (K : M → M → Prop) : Prop := match m with
  | .sl ds => ∃ j d, ixN ds.length i = some j ∧ ds[j]? = some d ∧ K (.dat d) (.sl (ds.eraseIdx j))
  | .lst ms => ∃ j e, ixN ms.length i = some j ∧ ms[j]? = some e ∧ K e (.lst (ms.eraseIdx j))
  | _ => False
def clrP (m : M) (K : M → M → Prop) : Prop := match m with
  | .sl _ => K (.dat .none) (.sl [])
  | .lst _ => K (.dat .none) (.sl [])
  | _ => False
def revP (m : M) (K : M → M → Prop) : Prop := match m with
  | .sl ds => K (.dat .none) (.sl ds.reverse)
  | .lst ms => K (.dat .none) (.lst ms.reverse)
  | _ => False
def insP (m : M) (i : Int) (a : M) (K : M → M → Prop) : Prop := match m with
  | .sl ds => (0 ≤ i ∧ i < 2 ^ 63 ∧ ds.length < 16777216) ∧ K (.dat .none) (insL ds i a)
  | .lst ms => (0 ≤ i ∧ i < 2 ^ 63 ∧ ms.length < 16777216) ∧ K (.dat .none) (.lst (insAt ms i a))
  | _ => False
def addP (m a : M) (K : M → M → Prop) : Prop := match m, a with
  | .set ds, .dat d => keyD d = true ∧ ds.length < 16777216 ∧ K (.dat .none) (.set (setPut ds d))
  | _, _ => False
def mut0W (k : BM) (m : M) (K : M → M → Prop) : Prop := match k with
  | .pop => pop0P m K
  | .clear => clrP m K
  | .reverse => revP m K
  | _ => False
def popIP (m a : M) (K : M → M → Prop) : Prop := match a with
  | .dat (.int i) => popAtP m i K
  | _ => False
def insIP (m i a : M) (K : M → M → Prop) : Prop := match i with
  | .dat (.int i) => insP m i a K
  | _ => False
def mut1W (k : BM) (m a : M) (K : M → M → Prop) : Prop := match k with
  | .append => appP m a K
  | .extend => extP m a K
  | .pop => popIP m a K
  | .add => addP m a K
  | _ => False
def mut2W (k : BM) (m i a : M) (K : M → M → Prop) : Prop := match k with
  | .insert => insIP m i a K
  | _ => False
/-- changes of an own container (the arguments are kept things): the value, the container behind it -/
def mutW (k : BM) (m : M) (as : List M) (K : M → M → Prop) : Prop := match as with
  | [] => mut0W k m K
  | [a] => mut1W k m a K
  | [i, a] => mut2W k m i a K
  | _ => False
def isMut : BM → Bool
  | .append | .extend | .pop | .insert | .clear | .reverse | .add => true
  | _ => false
def findD (x : D) : List D → Option Nat
  | [] => none
  | d :: r => if PyData.eqv d x then some 0 else (findD x r).map (· + 1)
def strP2 (m a : M) (K : Str → Str → Prop) : Prop := match m, a with
  | .dat (.str x), .dat (.str y) => K x y
  | _, _ => False
def upP (m : M) (K : M → Prop) : Prop := match m with
  | .dat (.str x) => (x.length ≤ 5592405 ∧ PyData.strOk (Txt.upper x) = true ∧ (Txt.upper x).length ≤ 16777216) ∧ K (.dat (.str (Txt.upper x)))
  | _ => False
def getP (m a : M) (K : M → Prop) : Prop := match m, a with
  | .dic kvs, .dat x => keyK x = true ∧ K (.dat ((dget kvs x).getD .none))
  | .dat (.dict kvs), .dat x => keyK x = true ∧ K (.dat ((dget kvs x).getD .none))
  | _, _ => False
def idxP (m a : M) (K : M → Prop) : Prop := pyW a fun x => listW m fun ds => okD x = true ∧ okD (.list ds) = true ∧ ∃ j, findD x ds = some j ∧ K (.dat (.int (j : Nat)))
def joinP (m a : M) (K : M → Prop) : Prop := match m with
  | .dat (.str x) => seqW a fun ds => ∃ ys, strsOf ds = some ys ∧ (ys.map (·.length)).sum + ys.length * x.length ≤ 16777216 ∧ K (.dat (.str (Txt.join x ys)))
  | _ => False
def read0W (k : BM) (m : M) (K : M → Prop) : Prop := match k with
  | .upper => upP m K
  | _ => False
def read1W (k : BM) (m a : M) (K : M → Prop) : Prop := match k with
  | .get => getP m a K
  | .index => idxP m a K
  | .join => joinP m a K
  | .split => strP2 m a fun x y => (y.length ≠ 0 ∧ x.length + 2 ≤ 16777216 ∧ (Txt.split x y).length ≤ 16777216) ∧ K (.sl ((Txt.split x y).map .str))
  | .partition => strP2 m a fun x y => y.length ≠ 0 ∧ K (.dat (.tuple [.str (Txt.partition x y).1, .str (Txt.partition x y).2.1, .str (Txt.partition x y).2.2]))
  | .endswith => strP2 m a fun x y => K (.dat (.bool (Txt.endswith x y)))
  | _ => False
/-- methods that only read -/
def readMW (k : BM) (m : M) (as : List M) (K : M → Prop) : Prop := match as with
  | [] => read0W k m K
  | [a] => read1W k m a K
  | _ => False
end QL
end
section
set_option linter.all false
set_option maxRecDepth 100000
/-! QA3: the runs. -/
namespace QL
open PySem
open L2 (ixN atI)

abbrev CK := SV → List M → Prop
abbrev CX := Nat → M → List M → Prop
structure Ctx where
  call : Nat → List M → CK → CX → Prop
  meth : Nat → Nat → Option Nat
  prop : Nat → Nat → Option Nat
  init : Nat → Option Nat
  sub : Nat → Nat → Bool
abbrev m_eq : Nat := 0
abbrev m_len : Nat := 1
abbrev m_getitem : Nat := 2
abbrev m_call : Nat := 3
abbrev f_value : Nat := 200

/-- f runs while x, which has come, waits -/
def holdW {β : Type} (x : SV) (f : XP → Env → (β → Env → Prop) → Prop) (X : XP) (σ : Env) (g : SV → β → Env → Prop) : Prop := match x with
  | .al i (k :: p) => pushW (some (.al i (k :: p))) σ fun σ1 => f (fun c m σ' => popW σ' fun s σ'' => match s with
      | some (.v _) => False
      | _ => X c m σ'') σ1 fun y σ2 =>
      popW σ2 fun s σ3 => match s with
        | some (.al j q) => normW σ3 (.al j q) fun x' => g x' y σ3
        | _ => False
  | .al i [] => f X σ fun y σ2 => normW σ2 (.al i []) fun x' => g x' y σ2
  | .v m => f X σ fun y σ2 => g (.v m) y σ2
  | _ => False

/-! ### calls -/
def roots : List SV → List Nat
  | [] => []
  | .al i _ :: r => i :: roots r
  | _ :: r => roots r
def memN (i : Nat) : List Nat → Bool
  | [] => false
  | j :: r => Nat.beq j i || memN i r
def dups : List Nat → List Nat
  | [] => []
  | i :: r => match memN i r with
    | true => i :: dups r
    | false => dups r
def unshareW : List Nat → Env → (Env → Prop) → Prop
  | [], σ, K => K σ
  | i :: r, σ, K => frzSW (.al i []) σ fun _ σ' => unshareW r σ' K
def getMsW (σ : Env) : List SV → (List M → Prop) → Prop
  | [], K => K []
  | s :: r, K => getW σ s fun m => getMsW σ r fun ms => K (m :: ms)
/-- where an argument was taken from -/
inductive Hole where
  | no
  | at (i : Nat) (p : List Nat) (m : M)
/-- the arguments' contents; own ones are away from their slots while the call runs -/
def takeW : List SV → Env → (List M → List Hole → Env → Prop) → Prop
  | [], σ, K => K [] [] σ
  | .v m :: r, σ, K => takeW r σ fun ms hs σ' => K (m :: ms) (.no :: hs) σ'
  | .al i p :: r, σ, K => nthW σ i fun s => match s with
    | .v m0 => atW p m0 fun c => match c.isFz with
      | true => takeW r σ fun ms hs σ' => K (c :: ms) (.no :: hs) σ'
      | false => mapW (clr i) σ fun σ1 => setW none i σ1 fun σ2 => takeW r σ2 fun ms hs σ' => K (c :: ms) (.at i p m0 :: hs) σ'
    | _ => False
  | _, _, _ => False
def restW : List Hole → List M → Env → (Env → Prop) → Prop
  | [], [], σ, K => K σ
  | .no :: hs, _ :: os, σ, K => restW hs os σ K
  | .at i p m0 :: hs, o :: os, σ, K => setAtW o p m0 fun m' => mapW (clr i) σ fun σ0 => setW (some (.v m')) i σ0 fun σ' => restW hs os σ' K
  | _, _, _, _ => False
def nthL {α : Type} : List α → Nat → (α → Prop) → Prop
  | [], _, _ => False
  | a :: _, 0, K => K a
  | _ :: r, n + 1, K => nthL r n K
def callOW (g : List M → CK → CX → Prop) (svs : List SV) (X : XP) (σ : Env) (K : SV → List M → Env → Prop) : Prop :=
  unshareW (dups (roots svs)) σ fun σ1 => takeW svs σ1 fun ms hs σ2 => g ms
    (fun r outs => restW hs outs σ2 fun σ3 => match r with
      | .v m => K (.v m) outs σ3
      | .al j p => nthL hs j fun s => match s with
        | .no => nthL outs j fun o => atW p o fun m => K (.v m) outs σ3
        | .at i q _ => normW σ3 (.al i (q ++ p)) fun sv => K sv outs σ3
      | _ => False)
    fun c m outs => restW hs outs σ2 fun σ3 => X c m σ3
def callGW (g : List M → CK → CX → Prop) (svs : List SV) (X : XP) (σ : Env) (K : KS) : Prop := callOW g svs X σ fun r _ σ' => K r σ'
def picks (svs : List SV) : List Nat → (List SV → Prop) → Prop
  | [], K => K []
  | k :: r, K => nthL svs k fun s => picks svs r fun l => K (s :: l)
def permW (perm : List Nat) (svs : List SV) (K : List SV → Prop) : Prop := match perm with
  | [] => K svs
  | p => picks svs p K

/-! ### what a loop walks -/
inductive BV where
  | one (sv : SV)
  | two (a b : SV)
inductive Src where
  | dat (l : List BV)
  | own (sv : SV) (n : Nat) (tp en : Bool)
def oneD (d : D) : BV := .one (.v (.dat d))
def numbD (k : Nat) : List D → List BV
  | [] => []
  | s :: r => .two (.v (.dat (.int k))) (.v (.dat s)) :: numbD (k + 1) r
def numbM (k : Nat) : List M → List BV
  | [] => []
  | s :: r => .two (.v (.dat (.int k))) (.v s) :: numbM (k + 1) r
def pairD : List D → List D → List BV
  | x :: xs, y :: ys => .two (.v (.dat x)) (.v (.dat y)) :: pairD xs ys
  | _, _ => []
def rangeD (lo : Int) : Nat → List BV
  | 0 => []
  | n + 1 => oneD (.int lo) :: rangeD (lo + 1) n
def rangeB (lo : Int) : Nat → List BV
  | 0 => []
  | n + 1 => oneD (.int lo) :: rangeB (lo - 1) n
def walkD (en : Bool) (ds : List D) : List BV := match en with
  | true => numbD 0 ds
  | false => ds.map oneD
def walkM (en : Bool) (ms : List M) : List BV := match en with
  | true => numbM 0 ms
  | false => ms.map fun m => .one (.v m)
/-- data, walked: numbered: a list alone; dicts: not yet -/
def walkW (en : Bool) (m : M) (K : List BV → Prop) : Prop := match m with
  | .dat (.list ds) => K (walkD en ds)
  | .sl ds => K (walkD en ds)
  | .dat (.tuple ds) => match en with
    | true => False
    | false => K (ds.map oneD)
  | .dat (.str x) => match en with
    | true => False
    | false => K ((signs x).map oneD)
  | _ => False
def srcW (en : Bool) (sv : SV) (σ : Env) (K : Src → Env → Prop) : Prop := match sv with
  | .v m => match m with
    | .lst ms => K (.dat (walkM en ms)) σ
    | .tup ms => match en with
      | true => False
      | false => K (.dat (walkM false ms)) σ
    | m => walkW en m fun l => K (.dat l) σ
  | .al i p => getW σ (.al i p) fun m => match m with
    | .sl ds => K (.own (.al i p) ds.length false en) σ
    | .lst ms => K (.own (.al i p) ms.length false en) σ
    | .tup ms => match en with
      | true => False
      | false => K (.own (.al i p) ms.length true false) σ
    | _ => frzSW (.al i p) σ fun f σ' => walkW en f fun l => K (.dat l) σ'
  | _ => False
def childSW (sv : SV) (k : Nat) (σ : Env) (K : SV → Prop) : Prop := match sv with
  | .v m => childW k m fun c => K (.v c)
  | .al i p => normW σ (.al i (p ++ [k])) K
  | _ => False
def seqLenW (tp : Bool) (sv : SV) (σ : Env) (K : Nat → Prop) : Prop := getW σ sv fun m => match (match tp with
    | true => isTup m
    | false => isList m) with
  | true => mLenW m K
  | false => False
/-- what is taken apart: a tuple -/
def tupLenW (sv : SV) (σ : Env) (K : Nat → Prop) : Prop := match sv with
  | .v (.dat (.tuple ds)) => K ds.length
  | .v (.tup ms) => K ms.length
  | .al i p => getW σ (.al i p) fun m => match m with
    | .tup ms => K ms.length
    | _ => False
  | _ => False
mutual
def tgHas (i : Nat) : Tg → Bool
  | .n j => Nat.beq j i
  | .t l => tgsHas i l
def tgsHas (i : Nat) : List Tg → Bool
  | [] => false
  | t :: r => tgHas i t || tgsHas i r
end
/-- what is taken apart does not stand in a slot that is stored -/
def freeOf (sv : SV) (l : List Tg) : Bool := match sv with
  | .al i _ => !tgsHas i l
  | _ => true
mutual
def bindW : Tg → SV → Env → (Env → Prop) → Prop
  | .n i, sv, σ, K => assignW i sv σ K
  | .t l, sv, σ, K => tupLenW sv σ fun n => n = l.length ∧ freeOf sv l = true ∧ bindsW l 0 sv σ K
def bindsW : List Tg → Nat → SV → Env → (Env → Prop) → Prop
  | [], _, _, σ, K => K σ
  | t :: r, k, sv, σ, K => childSW sv k σ fun s => bindW t s σ fun σ' => bindsW r (k + 1) sv σ' K
end
def bindBW (t : Tg) (b : BV) (σ : Env) (K : Env → Prop) : Prop := match b, t with
  | .one sv, t => bindW t sv σ K
  | .two x y, .t [t, u] => freeOf y [t] = true ∧ bindW t x σ fun σ' => normW σ' y fun y' => bindW u y' σ' K
  | _, _ => False
/-- what is wanted of the ends of a statement -/
structure Post where
  nx : Env → Prop
  rt : SV → Env → Prop
  bk : Env → Prop
  ct : Env → Prop
  ex : XP
def Post.seq (D : Post) (N : Env → Prop) : Post := { D with nx := N }
def Post.loop (D : Post) (N : Env → Prop) : Post := { D with nx := N, ct := N, bk := D.nx }
def Post.tryx (D : Post) (X : XP) : Post := { D with ex := X }
def popV (σ : Env) (K : Env → Prop) : Prop := popW σ fun s σ' => match s with
  | none => K σ'
  | some (.al _ _) => K σ'
  | _ => False
def Post.un (D : Post) : Post where
  nx := fun σ => popV σ D.nx
  rt := fun r σ => popV σ fun σ' => D.rt r σ'
  bk := fun σ => popV σ D.bk
  ct := fun σ => popV σ D.ct
  ex := fun c m σ => popV σ fun σ' => D.ex c m σ'
def forD (t : Tg) (body : Env → Post → Prop) : List BV → Env → Post → Prop
  | [], σ, D => D.nx σ
  | b :: bs, σ, D => bindBW t b σ fun σ1 => body σ1 (D.loop fun σ2 => forD t body bs σ2 D)
def isAl : SV → Prop
  | .al _ _ => True
  | _ => False
/-- the item at turn k of what waits in the last slot -/
def itemW (n : Nat) (tp en : Bool) (k : Nat) (σ : Env) (K : BV → Prop) : Prop := lastW σ fun sv => isAl sv ∧ seqLenW tp sv σ fun n' => n' = n ∧ childSW sv k σ fun s => match en with
  | true => K (.two (.v (.dat (.int k))) s)
  | false => K (.one s)
def endW (n : Nat) (tp : Bool) (σ : Env) (K : Prop) : Prop := lastW σ fun sv => isAl sv ∧ seqLenW tp sv σ fun n' => n' = n ∧ K
def forO (t : Tg) (body : Env → Post → Prop) (n : Nat) (tp en : Bool) : Nat → Env → Post → Prop
  | 0, σ, D => endW n tp σ (D.nx σ)
  | f + 1, σ, D => itemW n tp en (n - (f + 1)) σ fun b => bindBW t b σ fun σ1 => body σ1 (D.loop fun σ2 => forO t body n tp en f σ2 D)
abbrev FK := List M → Env → Prop
def wipeW : List Nat → Env → (Env → Prop) → Prop
  | [], σ, K => K σ
  | i :: r, σ, K => mapW (clr i) σ fun σ1 => setW none i σ1 fun σ2 => wipeW r σ2 K
/-- the block's own names are new at each turn -/
def compD (own : List Nat) (t : Tg) (f : Env → FK → Prop) : List BV → Env → FK → Prop
  | [], σ, K => K [] σ
  | b :: bs, σ, K => wipeW own σ fun σ0 => bindBW t b σ0 fun σ1 => f σ1 fun ms σ2 => compD own t f bs σ2 fun r σ3 => K (ms ++ r) σ3
def compO (own : List Nat) (t : Tg) (f : Env → FK → Prop) (n : Nat) (tp en : Bool) : Nat → Env → FK → Prop
  | 0, σ, K => endW n tp σ (K [] σ)
  | k + 1, σ, K => wipeW own σ fun σ0 => itemW n tp en (n - (k + 1)) σ0 fun b => bindBW t b σ0 fun σ1 => f σ1 fun ms σ2 => compO own t f n tp en k σ2 fun r σ3 => K (ms ++ r) σ3
def backSlot (σ0 : Env) (i : Nat) : Option SV := match σ0[i]? with
  | some (some (.v m)) => match m.isFz with
    | true => some (.v m)
    | false => none
  | _ => none
def restoreW (σ0 : Env) : List Nat → Env → (Env → Prop) → Prop
  | [], σ, K => K σ
  | i :: r, σ, K => mapW (clr i) σ fun σ1 => forceW (backSlot σ0 i) fun s => setW s i σ1 fun σ2 => restoreW σ0 r σ2 K
/-- a comprehension's walk: f gives what a turn adds -/
def compW (own : List Nat) (t : Tg) (s : Src) (f : Env → FK → Prop) (σ : Env) (K : FK) : Prop := match s with
  | .dat l => compD own t f l σ fun ms σ2 => restoreW σ own σ2 fun σ3 => K ms σ3
  | .own sv n tp en => pushW (some sv) σ fun σ0 => compO own t f n tp en n σ0 fun ms σ2 => popV σ2 fun σ3 => restoreW σ own σ3 fun σ4 => K ms σ4
def mkD : List M → Option (List (D × D))
  | [] => some []
  | .dat (.tuple [k, v]) :: r => if keyK k then (mkD r).map ((k, v) :: ·) else none
  | _ => none

/-! ### operators on slots -/
def binSW (o : BOp) (x y : SV) (σ : Env) (K : KS) : Prop := settleSW x σ fun a σ1 => settleSW y σ1 fun b σ2 => binW o a b fun m => K (.v m) σ2
def bitW (neg : Bool) (s : SV) (K : Bool → Prop) : Prop := match s with
  | .v (.dat (.bool b)) => match neg with
    | true => K (!b)
    | false => K b
  | _ => False
def isNe : COp → Bool
  | .ne => true
  | _ => false
abbrev noX : XP := fun _ _ _ => False
def isEqOp : COp → Bool
  | .eq | .ne => true
  | _ => false
def isIns : M → Bool
  | .ins _ _ _ _ => true
  | _ => false
def clsOf : M → Nat
  | .ins _ c _ _ => c
  | _ => 0
/-- == of an instance: its own __eq__ -/
def ownEqW (Γ : Ctx) (o : COp) (c : Nat) (x y : SV) (σ : Env) (K : Bool → Env → Prop) : Prop := match Γ.meth c m_eq with
  | some f => callGW (Γ.call f) [x, y] noX σ fun r σ' => bitW (isNe o) r fun k => K k σ'
  | none => False
def cmpSW (Γ : Ctx) (o : COp) (x y : SV) (σ : Env) (K : KS) : Prop := getW σ x fun a => getW σ y fun b => match isEqOp o && (isIns a || isIns b) with
  | true => match isIns a with
    | true => ownEqW Γ o (clsOf a) x y σ fun k σ' => K (.v (.dat (.bool k))) σ'
    | false => ownEqW Γ o (clsOf b) y x σ fun k σ' => K (.v (.dat (.bool k))) σ'
  | false => cmpW o a b fun k => K (.v (.dat (.bool k))) σ
def ixSW (Γ : Ctx) (x i : SV) (X : XP) (σ : Env) (K : KS) : Prop := getW σ x fun m => match m with
  | .ins _ c _ _ => match Γ.meth c m_getitem with
    | some f => callGW (Γ.call f) [x, i] X σ K
    | none => False
  | m => viewW i σ fun d => ixW m d (fun k => childSW x k σ fun s => K s σ) fun v => K (.v (.dat v)) σ
def fldSW (Γ : Ctx) (x : SV) (f : Nat) (σ : Env) (K : KS) : Prop := match x with
  | .xr i => nthW σ i fun s => match s with
    | .exc c m => match Nat.beq f f_value with
      | true => match m.isFz with
        | true => K (.v m) σ
        | false => setW (some (.exg c)) i σ fun σ' => K (.v m) σ'
      | false => False
    | _ => False
  | x => getW σ x fun m => match m with
    | .ins _ c ks _ => match Γ.prop c f with
      | some g => callGW (Γ.call g) [x] noX σ K
      | none => match ixOf f ks with
        | some _ => childSW x f σ fun s => K s σ
        | none => False
    | _ => False
def lenSW (Γ : Ctx) (x : SV) (σ : Env) (K : KS) : Prop := getW σ x fun m => match m with
  | .ins _ c _ _ => match Γ.meth c m_len with
    | some f => callGW (Γ.call f) [x] noX σ fun r σ' => match r with
      | .v (.dat (.int n)) => (0 ≤ n ∧ n < 4611686018427387904) ∧ K (.v (.dat (.int n))) σ'
      | _ => False
    | none => False
  | m => mLenW m fun n => K (.v (.dat (.int n))) σ
def argsW (dp : Bool) (k : BM) (svs : List SV) (σ : Env) (K : FK) : Prop := match svs with
  | [] => K [] σ
  | [x] => match k with
    | .extend => settleSW x σ fun m σ1 => K [m] σ1
    | _ => putW dp x σ fun m σ1 => K [m] σ1
  | [i, x] => getW σ i fun n => match n with
    | .dat (.int j) => putW dp x σ fun m σ1 => K [.dat (.int j), m] σ1
    | _ => False
  | _ => False
def viewsW : List SV → Env → (List M → Prop) → Prop
  | [], _, K => K []
  | s :: r, σ, K => getW σ s fun m => settleW m fun m' => viewsW r σ fun ms => K (m' :: ms)
def copies : Prim → Bool
  | .lst | .tup | .dic | .set => true
  | _ => false
def copySW (p : Prim) (svs : List SV) (σ : Env) (K : KS) : Prop := match svs with
  | [x] => settleSW x σ fun m σ1 => primW p [m] fun m => K (.v m) σ1
  | _ => False
def lookSW (p : Prim) (svs : List SV) (σ : Env) (K : KS) : Prop := viewsW svs σ fun ms => primW p ms fun m => K (.v m) σ
def lensSW (Γ : Ctx) (svs : List SV) (σ : Env) (K : KS) : Prop := match svs with
  | [x] => lenSW Γ x σ K
  | _ => False
def primSW (Γ : Ctx) (p : Prim) (svs : List SV) (X : XP) (σ : Env) (K : KS) : Prop := match p with
  | .len => lensSW Γ svs σ K
  | p => match copies p with
    | true => copySW p svs σ K
    | false => lookSW p svs σ K
/-- types: 0 list, 2 dict, 3 text, 4 set -/
def tyM (m : M) : Nat := match m with
  | .dat (.list _) => 0
  | .dat (.dict _) => 2
  | .dat (.str _) => 3
  | .sl _ => 0
  | .lst _ => 0
  | .dic _ => 2
  | .set _ => 4
  | _ => 9
def bmTy : BM → Nat
  | .get => 2
  | .join | .split | .partition | .endswith | .upper | .replace => 3
  | .add => 4
  | _ => 0
/-- what stands at x is another thing now -/
def chgW (x : SV) (m' : M) (σ : Env) (K : Env → Prop) : Prop := match x with
  | .al i p => setMW σ i p m' fun σ2 => mapW (clrB i p) σ2 K
  | _ => False
def mutSW (dp : Bool) (x : SV) (k : BM) (svs : List SV) (σ : Env) (K : KS) : Prop := argsW dp k svs σ fun as σ1 => getW σ1 x fun m => mutW k m as fun r m' => chgW x m' σ1 fun σ3 => K (.v r) σ3
def seeSW (x : SV) (k : BM) (svs : List SV) (σ : Env) (K : KS) : Prop := getW σ x fun m => settleW m fun m' => viewsW svs σ fun as => readMW k m' as fun r => K (.v r) σ
def bmSW (dp : Bool) (x : SV) (k : BM) (svs : List SV) (σ : Env) (K : KS) : Prop := match isMut k with
  | true => mutSW dp x k svs σ K
  | false => seeSW x k svs σ K
/-- a method's owner: known ahead of the arguments -/
def insW (Γ : Ctx) (k : Nat) (m : M) (K : Nat → Prop) : Prop := match m with
  | .ins _ c _ _ => match Γ.meth c k with
    | some _ => K c
    | none => False
  | _ => False
def umSW (Γ : Ctx) (c : Nat) (x : SV) (k : Nat) (svs : List SV) (X : XP) (σ : Env) (K : KS) : Prop := match Γ.meth c k with
  | some f => callGW (Γ.call f) (x :: svs) X σ K
  | none => False
/-- classes of built-in types: 0 list, 1 tuple, 2 dict, 3 str, 4 int -/
def kindD : D → Nat
  | .list _ => 0
  | .tuple _ => 1
  | .dict _ => 2
  | .str _ => 3
  | .int _ => 4
  | .none => 5
  | .bool _ => 6
def kindM : M → Nat
  | .dat d => kindD d
  | .sl _ => 0
  | .lst _ => 0
  | .tup _ => 1
  | .dic _ => 2
  | .set _ => 7
  | .ins _ _ _ _ => 8
  | .scr _ => 0
def isiSW (Γ : Ctx) (x : SV) (cs : List Nat) (σ : Env) (K : KS) : Prop := match x with
  | .xr i => nthW σ i fun s => match s with
    | .exc c _ => K (.v (.dat (.bool (cs.any fun d => Γ.sub c d)))) σ
    | .exg c => K (.v (.dat (.bool (cs.any fun d => Γ.sub c d)))) σ
    | _ => False
  | x => getW σ x fun m => match m with
    | .ins _ c _ _ => K (.v (.dat (.bool (cs.any fun d => Γ.sub c d)))) σ
    | m => K (.v (.dat (.bool (cs.any fun d => Nat.beq (kindM m) d)))) σ
def partW (s : SV) (σ : Env) (K : Option Int → Prop) : Prop := viewW s σ fun d => match d with
  | .int i => K (some i)
  | _ => False
def strsM : List M → Option (List Str)
  | [] => some []
  | .dat (.str x) :: r => (strsM r).map (x :: ·)
  | _ => none
def slSW (x : SV) (lo hi : Option Int) (σ : Env) (K : KS) : Prop := settleSW x σ fun m σ1 => slW m lo hi fun r => K (.v r) σ1
def makeW (Γ : Ctx) (c : Nat) (svs : List SV) (X : XP) (σ : Env) (K : KS) : Prop := match Γ.init c with
  | some f => callOW (Γ.call f) (.v (.ins false c [] []) :: svs) X σ fun r outs σ' => match r, outs with
    | .v (.dat .none), m :: _ => K (.v m) σ'
    | _, _ => False
  | none => False
def smallI (i : Int) : Prop := -(2 ^ 62) ≤ i ∧ i < 2 ^ 62
def rangeW (ms : List M) (K : List BV → Prop) : Prop := match ms with
  | [.dat (.int n)] => (smallI n ∧ n ≤ 16777216) ∧ K (rangeD 0 n.toNat)
  | [.dat (.int a), .dat (.int b)] => (smallI a ∧ smallI b ∧ b - a ≤ 16777216) ∧ K (rangeD a (b - a).toNat)
  | [.dat (.int a), .dat (.int b), .dat (.int c)] => (smallI a ∧ smallI b ∧ c = -1 ∧ a - b ≤ 16777216) ∧ K (rangeB a (a - b).toNat)
  | _ => False
def Es.stars : Es → Bool
  | .nil => false
  | .cons s _ r => s || r.stars
def Es.num : Es → Nat
  | .nil => 0
  | .cons _ _ r => r.num + 1
/-- room for a display's items -/
def roomW (ms : List M) (K : Prop) : Prop := condW (Nat.ble ms.length 16777216) K False
/-- room for a comprehension's items: a walk over things that stand needs none -/
def Src.isRange : Src → Bool
  | _ => false
section
variable (Γ : Ctx) (dp : Bool)
mutual
def evE : E → XP → Env → KS → Prop
  | .c d, _, σ, K => K (.v (.dat d)) σ
  | .x i, _, σ, K => readW σ i fun sv => K sv σ
  | .bin o a b, X, σ, K => evE a X σ fun x σ1 => holdW x (evE b) X σ1 fun x y σ2 => binSW o x y σ2 K
  | .neg a, X, σ, K => evE a X σ fun x σ1 => partW x σ1 fun i => match i with
    | some i => K (.v (.dat (.int (-i)))) σ1
    | none => False
  | .nt a, X, σ, K => evE a X σ fun x σ1 => truthW x σ1 fun b => K (.v (.dat (.bool !b))) σ1
  | .and a b, X, σ, K => evE a X σ fun x σ1 => truthW x σ1 fun t => condW t (evE b X σ1 K) (K x σ1)
  | .or a b, X, σ, K => evE a X σ fun x σ1 => truthW x σ1 fun t => condW t (K x σ1) (evE b X σ1 K)
  | .cmp o a b, X, σ, K => evE a X σ fun x σ1 => holdW x (evE b) X σ1 fun x y σ2 => cmpSW Γ o x y σ2 K
  | .chain o o' a b c, X, σ, K => evE a X σ fun x σ1 => holdW x (evE b) X σ1 fun x y σ2 => getW σ2 x fun m => getW σ2 y fun n => cmpW o m n fun t =>
      condW t (holdW y (evE c) X σ2 fun y z σ4 => getW σ4 y fun m => getW σ4 z fun n => cmpW o' m n fun k => K (.v (.dat (.bool k))) σ4) (K (.v (.dat (.bool false))) σ2)
  | .ife t a b, X, σ, K => evE t X σ fun x σ1 => truthW x σ1 fun t => condW t (evE a X σ1 K) (evE b X σ1 K)
  | .tup es, X, σ, K => evDs es X σ fun ms σ1 => roomW ms (K (.v (mkT ms)) σ1)
  | .lst es, X, σ, K => evDs es X σ fun ms σ1 => roomW ms (K (.v (mkL ms)) σ1)
  | .dic ks vs, X, σ, K => evDs ks X σ fun ms σ1 => evDs vs X σ1 fun ns σ2 => match dats ms, dats ns with
    | some ks, some vs => (ks.all keyK = true ∧ ks.length = vs.length) ∧ K (.v (.dic (dputs (ks.zip vs)))) σ2
    | _, _ => False
  | .ix a i, X, σ, K => evE a X σ fun x σ1 => holdW x (evE i) X σ1 fun x y σ2 => ixSW Γ x y X σ2 K
  | .sl a lo hi, X, σ, K => evE a X σ fun x σ1 => holdW x (evP lo) X σ1 fun x i σ2 => holdW x (evP hi) X σ2 fun x j σ3 => slSW x i j σ3 K
  | .fld a f, X, σ, K => evE a X σ fun x σ1 => fldSW Γ x f σ1 K
  | .call f es perm, X, σ, K => evAs es X σ fun svs σ1 => permW perm svs fun l => callGW (Γ.call f) l X σ1 K
  | .make c es perm, X, σ, K => evAs es X σ fun svs σ1 => permW perm svs fun l => makeW Γ c l X σ1 K
  | .bm a k es, X, σ, K => evE a X σ fun x σ1 => getW σ1 x fun m => match Nat.beq (tyM m) (bmTy k) with
    | true => holdW x (evAs es) X σ1 fun x svs σ2 => bmSW dp x k svs σ2 K
    | false => False
  | .um a k es perm, X, σ, K => evE a X σ fun x σ1 => getW σ1 x fun m => insW Γ k m fun c => holdW x (evAs es) X σ1 fun x svs σ2 => permW perm svs fun l => umSW Γ c x k l X σ2 K
  | .app a es perm, X, σ, K => evE a X σ fun x σ1 => getW σ1 x fun m => insW Γ m_call m fun c => holdW x (evAs es) X σ1 fun x svs σ2 => permW perm svs fun l => umSW Γ c x m_call l X σ2 K
  | .prim p es, X, σ, K => evAs es X σ fun svs σ1 => primSW Γ p svs X σ1 K
  | .isi a cs, X, σ, K => evE a X σ fun x σ1 => isiSW Γ x cs σ1 K
  | .fstr es, X, σ, K => evDs es X σ fun ms σ1 => match strsM ms with
    | some xs => (xs.map (·.length)).sum ≤ 16777216 ∧ K (.v (.dat (.str (Str.join ⟨#[]⟩ xs)))) σ1
    | none => False
  | .comp own t it cond e, X, σ, K => evI it X σ fun s σ1 => compW own t s (fun σ2 F => evC cond noX σ2 fun b σ3 => condW b
      (evE e noX σ3 fun x σ4 => putW dp x σ4 fun m σ5 => F [m] σ5) (F [] σ3)) σ1 fun ms σ6 => K (.v (mkL ms)) σ6
  | .comp2 own t it cond own' t' it' cond' e, X, σ, K => evI it X σ fun s σ1 => compW own t s (fun σ2 F => evC cond noX σ2 fun b σ3 => condW b
      (evI it' noX σ3 fun s' σ4 => compW own' t' s' (fun σ5 F' => evC cond' noX σ5 fun b' σ6 => condW b'
        (evE e noX σ6 fun x σ7 => putW dp x σ7 fun m σ8 => F' [m] σ8) (F' [] σ6)) σ4 F) (F [] σ3)) σ1 fun ms σ9 => ms.length ≤ 16777216 ∧ K (.v (mkL ms)) σ9
  | .dcomp own t it cond k e, X, σ, K => evI it X σ fun s σ1 => compW own t s (fun σ2 F => evC cond noX σ2 fun b σ3 => condW b
      (evE k noX σ3 fun y σ4 => holdW y (evE e) noX σ4 fun y x σ5 => putW false y σ5 fun n σ6 => putW false x σ6 fun m σ7 => F [mkT [n, m]] σ7) (F [] σ3)) σ1 fun ms σ8 => match mkD ms with
      | some kvs => K (.v (.dic (dputs kvs))) σ8
      | none => False
  | .dcomp2 own t it cond own' t' it' cond' k e, X, σ, K => evI it X σ fun s σ1 => compW own t s (fun σ2 F => evC cond noX σ2 fun b σ3 => condW b
      (evI it' noX σ3 fun s' σ4 => compW own' t' s' (fun σ5 F' => evC cond' noX σ5 fun b' σ6 => condW b'
        (evE k noX σ6 fun y σ7 => holdW y (evE e) noX σ7 fun y x σ8 => putW false y σ8 fun n σ9 => putW false x σ9 fun m σa => F' [mkT [n, m]] σa) (F' [] σ6)) σ4 F) (F [] σ3)) σ1 fun ms σb => match mkD ms with
      | some kvs => kvs.length ≤ 16777216 ∧ K (.v (.dic (dputs kvs))) σb
      | none => False
/-- arguments -/
def evAs : Es → XP → Env → (List SV → Env → Prop) → Prop
  | .nil, _, σ, K => K [] σ
  | .cons _ e r, X, σ, K => evE e X σ fun x σ1 => holdW x (evAs r) X σ1 fun x xs σ2 => K (x :: xs) σ2
/-- a display's items -/
def evDs : Es → XP → Env → FK → Prop
  | .nil, _, σ, K => K [] σ
  | .cons false e r, X, σ, K => evE e X σ fun x σ1 => putW dp x σ1 fun m σ2 => evDs r X σ2 fun ms σ3 => K (m :: ms) σ3
  | .cons true e r, X, σ, K => evE e X σ fun x σ1 => settleSW x σ1 fun m σ2 => seqW m fun ds => evDs r X σ2 fun ms σ3 => K (ds.map .dat ++ ms) σ3
/-- a slice's end -/
def evP : EO → XP → Env → (Option Int → Env → Prop) → Prop
  | .none, _, σ, K => K none σ
  | .some e, X, σ, K => evE e X σ fun x σ1 => partW x σ1 fun i => K i σ1
/-- a test -/
def evC : EO → XP → Env → (Bool → Env → Prop) → Prop
  | .none, _, σ, K => K true σ
  | .some e, X, σ, K => evE e X σ fun x σ1 => truthW x σ1 fun b => K b σ1
def evI : It → XP → Env → (Src → Env → Prop) → Prop
  | .e e, X, σ, K => evE e X σ fun x σ1 => srcW false x σ1 K
  | .enum e, X, σ, K => evE e X σ fun x σ1 => srcW true x σ1 K
  | .range es, X, σ, K => evAs es X σ fun svs σ1 => getMsW σ1 svs fun ms => rangeW ms fun l => K (.dat l) σ1
  | .zip a b, X, σ, K => evE a X σ fun x σ1 => holdW x (evE b) X σ1 fun x y σ2 => frzSW x σ2 fun m σ3 => frzSW y σ3 fun n σ4 => itemsW m fun ds => itemsW n fun es => K (.dat (pairD ds es)) σ4
  | .rev e, X, σ, K => evE e X σ fun x σ1 => frzSW x σ1 fun m σ2 => match m with
      | .dat (.list ds) => K (.dat (ds.reverse.map oneD)) σ2
      | _ => False
  | .vals e, X, σ, K => evE e X σ fun x σ1 => frzSW x σ1 fun m σ2 => match m with
      | .dat (.dict kvs) => K (.dat (kvs.map fun p => oneD p.2)) σ2
      | _ => False
end
def augW (x y : SV) (σ : Env) (K : Int → Prop) : Prop := match x with
  | .v (.dat (.int i)) => partW y σ fun j => match j with
    | some j => K (i + j)
    | none => False
  | _ => False
/-- what waits, behind a store -/
def normsW : List SV → Env → (List SV → Prop) → Prop
  | [], _, K => K []
  | s :: r, σ, K => normW σ s fun s' => normsW r σ fun r' => K (s' :: r')
def parW : List Tg → List SV → Env → (Env → Prop) → Prop
  | [], [], σ, K => K σ
  | .n i :: ts, s :: ss, σ, K => match memN i (roots ss) with
    | true => False
    | false => assignW i s σ fun σ' => normsW ss σ' fun ss' => parW ts ss' σ' K
  | _, _, _, _ => False
def setIxW (x i : SV) (m : M) (σ : Env) (K : Env → Prop) : Prop := match x with
  | .al j p => getW σ (.al j p) fun c => viewW i σ fun d => match c, d with
    | .sl ds, .int k => ∃ q, ixN ds.length k = some q ∧ setMW σ j p (setL ds q m) fun σ' => mapW (clrB j p) σ' K
    | .lst ms, .int k => ∃ q, ixN ms.length k = some q ∧ setMW σ j p (.lst (ms.set q m)) fun σ' => mapW (clrB j p) σ' K
    | .dic kvs, k => match m with
      | .dat d => (keyK k = true ∧ kvs.length < 16777216) ∧ setMW σ j p (.dic (dput kvs k d)) fun σ' => mapW (clrB j p) σ' K
      | _ => False
    | _, _ => False
  | _ => False
def fldIns (c : M) (f : Nat) (m : M) (K : M → Prop) : Prop := match c with
  | .ins false c ks ms => match Nat.ble ks.length 900 with
    | true => match ixOf f ks with
      | some q => K (.ins false c ks (ms.set q m))
      | none => K (.ins false c (ks ++ [f]) (ms ++ [m]))
    | false => False
  | _ => False
def putFldW (x : SV) (f : Nat) (m : M) (σ : Env) (K : Env → Prop) : Prop := getW σ x fun c => fldIns c f m fun c' => chgW x c' σ K
def iterW (test : XP → Env → (Bool → Env → Prop) → Prop) (body : Env → Post → Prop) : Nat → Env → Post → Prop
  | 0, _, _ => False
  | n + 1, σ, D => test D.ex σ fun b σ1 => condW b (body σ1 (D.loop fun σ2 => iterW test body n σ2 D)) (D.nx σ1)
/-- a suite's ends: the exception's name is gone, no exception is held -/
def noExc : Env → Bool
  | [] => true
  | some (.exc _ _) :: _ => false
  | some (.exg _) :: _ => false
  | _ :: r => noExc r
def offW (i : Nat) (σ : Env) (K : Env → Prop) : Prop := mapW (clr i) σ fun σ1 => setW none i σ1 fun σ2 => match noExc σ2 with
  | true => K σ2
  | false => False
def Post.off (i : Nat) (D : Post) : Post where
  nx := fun σ => offW i σ D.nx
  rt := fun r σ => match r with
    | .v m => offW i σ fun σ' => D.rt (.v m) σ'
    | _ => False
  bk := fun σ => offW i σ D.bk
  ct := fun σ => offW i σ D.ct
  ex := fun _ _ _ => False
def Post.cold (D : Post) : Post := { D with ex := fun _ _ _ => False }
mutual
def exS : S → Env → Post → Prop
  | .asg t e, σ, D => evE Γ dp e D.ex σ fun x σ1 => bindW t x σ1 D.nx
  | .par ts es, σ, D => evAs Γ dp es D.ex σ fun xs σ1 => parW ts xs σ1 D.nx
  | .setIx a i e, σ, D => evE Γ dp e D.ex σ fun y σ1 => putW dp y σ1 fun m σ2 => evE Γ dp a D.ex σ2 fun x σ3 => holdW x (evE Γ dp i) D.ex σ3 fun x j σ4 => setIxW x j m σ4 D.nx
  | .setFld a f e, σ, D => evE Γ dp e D.ex σ fun y σ1 => putW true y σ1 fun m σ2 => evE Γ dp a D.ex σ2 fun x σ3 => putFldW x f m σ3 D.nx
  | .aug i o e, σ, D => match o with
    | .add => readW σ i fun x => evE Γ dp e D.ex σ fun y σ1 => augW x y σ1 fun k => assignW i (.v (.dat (.int k))) σ1 D.nx
    | _ => False
  | .ex e, σ, D => evE Γ dp e D.ex σ fun _ σ1 => D.nx σ1
  | .ifs t a b, σ, D => evE Γ dp t D.ex σ fun x σ1 => truthW x σ1 fun k => condW k (exSs a σ1 D) (exSs b σ1 D)
  | .for t it b, σ, D => evI Γ dp it D.ex σ fun s σ1 => match s with
    | .dat l => forD t (exSs b) l σ1 D
    | .own sv n tp en => pushW (some sv) σ1 fun σ2 => forO t (exSs b) n tp en n σ2 D.un
  | .while t b, σ, D => ∃ n, iterW (evC Γ dp (.some t)) (exSs b) n σ D
  | .ret e, σ, D => evE Γ dp e D.ex σ fun x σ1 => D.rt x σ1
  | .retN, σ, D => D.rt (.v (.dat .none)) σ
  | .raise c e, σ, D => evE Γ dp e D.ex σ fun x σ1 => putW true x σ1 fun m σ2 => D.ex c m σ2
  | .brk, σ, D => D.bk σ
  | .cnt, σ, D => D.ct σ
  | .pass, σ, D => D.nx σ
  | .tr b hs, σ, D => exSs b σ (D.tryx fun c m σ1 => exH hs c m σ1 D)
  | .wipe l s, σ, D => exS s σ (D.seq fun σ1 => wipeW l σ1 D.nx)
def exSs : Ss → Env → Post → Prop
  | .nil, σ, D => D.nx σ
  | .cons s r, σ, D => exS s σ (D.seq fun σ1 => exSs r σ1 D)
def exH : Hs → Nat → M → Env → Post → Prop
  | .nil, c, m, σ, D => D.ex c m σ
  | .cons cs slot b r, c, m, σ, D => condW (cs.any fun d => Γ.sub c d) (match slot with
      | none => exSs b σ D.cold
      | some i => mapW (clr i) σ fun σ1 => setW (some (.exc c m)) i σ1 fun σ2 => exSs b σ2 (D.off i)) (exH r c m σ D)
end
end
/-! ### defs -/
structure Fn where
  np : Nat
  ns : Nat
  reb : List Nat
  dp : Bool
  body : Ss
structure Prg where
  fn : Nat → Option Fn
  meth : Nat → Nat → Option Nat
  prop : Nat → Nat → Option Nat
  init : Nat → Option Nat
  sub : Nat → Nat → Bool
/-- the arguments behind a call: a parameter that the def stores anew was data -/
def outsW (reb : List Nat) (σ : Env) : Nat → List M → (List M → Prop) → Prop
  | _, [], K => K []
  | j, m :: r, K => match memN j reb with
    | true => outsW reb σ (j + 1) r fun os => K (m :: os)
    | false => nthW σ j fun s => match s with
      | .v m' => outsW reb σ (j + 1) r fun os => K (m' :: os)
      | _ => False
def rebOk (reb : List Nat) : Nat → List M → Bool
  | _, [] => true
  | j, m :: r => (!memN j reb || m.isFz) && rebOk reb (j + 1) r
def finishW (f : Fn) (ms : List M) (K : CK) (sv : SV) (σ : Env) : Prop := outsW f.reb σ 0 ms fun outs => match sv with
  | .v m => K (.v m) outs
  | .al i p => match Nat.blt i f.np && !memN i f.reb with
    | true => K (.al i p) outs
    | false => getW σ (.al i p) fun m => K (.v m) outs
  | _ => False
def nonesW : Nat → (Env → Prop) → Prop
  | 0, K => K []
  | n + 1, K => nonesW n fun r => K (none :: r)
def startW : List M → Nat → (Env → Prop) → Prop
  | [], n, K => nonesW n K
  | m :: r, n, K => startW r n fun σ => K (some (.v m) :: σ)
def topP (f : Fn) (ms : List M) (K : CK) (X : CX) : Post :=
  { nx := fun σ => finishW f ms K (.v (.dat .none)) σ, rt := finishW f ms K, bk := fun _ => False, ct := fun _ => False,
    ex := fun c m σ => outsW f.reb σ 0 ms fun outs => X c m outs }
def runW (Γ : Ctx) (f : Fn) (ms : List M) (K : CK) (X : CX) : Prop := match Nat.beq ms.length f.np && rebOk f.reb 0 ms with
  | true => startW ms (f.ns - f.np) fun σ => exSs Γ f.dp f.body σ
    (topP f ms K X)
  | false => False
def callW (P : Prg) : Nat → Nat → List M → CK → CX → Prop
  | 0, _, _, _, _ => False
  | n + 1, f, ms, K, X => match P.fn f with
    | some fn => runW { call := callW P n, meth := P.meth, prop := P.prop, init := P.init, sub := P.sub } fn ms K X
    | none => False
end QL
end
section
set_option linter.all false
set_option maxRecDepth 100000
set_option maxHeartbeats 1000000
/-! SA1: how values and slots of the small language lie in the hand layer's abstract heap. -/
namespace QL
open PySem PySem.Spec PyProof.Rows L2

/-- the world's fixed parts: the written part, the classes' places, the fields' names -/
structure Wd where
  K : PySem.W.Frag
  cls : Nat → Option Addr
  ins : Nat → Option Addr
  fld : Nat → Str
  fldInj : ∀ i j, fld i = fld j → i = j

/-- a tuple of the written part -/
def WrT (K : PySem.W.Frag) (a : Addr) (xs : List V) : Prop :=
  ∃ (o : Obj) (its : Array Value) (n : Nat), K.lookup a = some o ∧ o.cls = .type "tuple" ∧ o.data = .seq its n ∧ its.size ≤ sizeLine ∧ Vals xs its.toList
/-- a tuple that stays -/
def TupF (K : PySem.W.Frag) (F : Addr → Prop) (H : Hp) (a : Addr) (xs : List V) : Prop := (F a ∧ H a = some (.tup xs)) ∨ WrT K a xs
theorem TupF.sq {K : PySem.W.Frag} {F : Addr → Prop} {H : Hp} {a : Addr} {xs : List V} (t : TupF K F H a xs) : SqT K H a xs := by
  rcases t with ⟨_, h⟩ | h
  · exact .inl (.inl h)
  · exact .inr h
def keyOf : D → Option Key
  | .int i => some (.inl i)
  | .str x => some (.inr x)
  | _ => none
theorem keyK_of {d : D} (h : keyK d = true) : ∃ k, keyOf d = some k := by
  cases d <;> simp_all [keyK, keyOf]

mutual
/-- data that stays, at a value -/
inductive RD (K : PySem.W.Frag) (F : Addr → Prop) (H : Hp) : D → V → Prop
  | none : RD K F H .none .non
  | bool {b : Bool} : RD K F H (.bool b) (.bl b)
  | int {i : Int} : RD K F H (.int i) (.int i)
  | str {x : Str} (ok : PyData.strOk x = true) (ln : x.length ≤ sizeLine) : RD K F H (.str x) (.str x)
  | list {a : Addr} {vs : List V} {ds : List D} (f : F a) (h : H a = some (.lst vs)) (ln : ds.length ≤ sizeLine) (r : RDs K F H ds vs) : RD K F H (.list ds) (.ref a)
  | tuple {a : Addr} {vs : List V} {ds : List D} (h : TupF K F H a vs) (ln : ds.length ≤ sizeLine) (r : RDs K F H ds vs) : RD K F H (.tuple ds) (.ref a)
  | dict {a : Addr} {kvs : List (Key × V)} {ds : List (D × D)} (f : F a) (h : H a = some (.dK kvs)) (ln : ds.length ≤ sizeLine) (r : RKs K F H ds kvs) : RD K F H (.dict ds) (.ref a)
inductive RDs (K : PySem.W.Frag) (F : Addr → Prop) (H : Hp) : List D → List V → Prop
  | nil : RDs K F H [] []
  | cons {d : D} {v : V} {ds : List D} {vs : List V} (r : RD K F H d v) (t : RDs K F H ds vs) : RDs K F H (d :: ds) (v :: vs)
inductive RKs (K : PySem.W.Frag) (F : Addr → Prop) (H : Hp) : List (D × D) → List (Key × V) → Prop
  | nil : RKs K F H [] []
  | cons {d e : D} {k : Key} {v : V} {ds : List (D × D)} {kvs : List (Key × V)} (hk : keyOf d = some k) (rk : RD K F H d (kV k)) (r : RD K F H e v) (t : RKs K F H ds kvs) : RKs K F H ((d, e) :: ds) ((k, v) :: kvs)
end
mutual
/-- an own thing, at a value, with the places of what it owns -/
inductive RM (W : Wd) (F : Addr → Prop) (H : Hp) : M → V → List Addr → Prop
  | dat {d : D} {v : V} (r : RD W.K F H d v) : RM W F H (.dat d) v []
  | sl {a : Addr} {vs : List V} {ds : List D} (h : H a = some (.lst vs)) (ln : ds.length ≤ sizeLine) (r : RDs W.K F H ds vs) : RM W F H (.sl ds) (.ref a) [a]
  | lst {a : Addr} {vs : List V} {ms : List M} {fp : List Addr} (h : H a = some (.lst vs)) (ln : ms.length ≤ sizeLine) (r : RMs W F H ms vs fp) : RM W F H (.lst ms) (.ref a) (a :: fp)
  | tup {a : Addr} {vs : List V} {ms : List M} {fp : List Addr} (f : F a) (h : H a = some (.tup vs)) (ln : ms.length ≤ sizeLine) (r : RMs W F H ms vs fp) : RM W F H (.tup ms) (.ref a) fp
  | dic {a : Addr} {kvs : List (Key × V)} {ds : List (D × D)} (h : H a = some (.dK kvs)) (ln : ds.length ≤ sizeLine) (r : RKs W.K F H ds kvs) : RM W F H (.dic ds) (.ref a) [a]
  | ins {a dx C : Addr} {c : Nat} {ks : List Nat} {fs : List (Str × V)} {ms : List M} {fp : List Addr} (hc : W.ins c = some C) (h : H a = some (.ins C dx fs)) (n : ks.Nodup) (r : RFs W F H ks ms fs fp) : RM W F H (.ins false c ks ms) (.ref a) (a :: fp)
  | insF {a dx C : Addr} {c : Nat} {ks : List Nat} {fs : List (Str × V)} {ms : List M} (hc : W.ins c = some C) (f : F a) (h : H a = some (.ins C dx fs)) (n : ks.Nodup) (z : ∀ m ∈ ms, m.isFz = true) (r : RFs W F H ks ms fs []) : RM W F H (.ins true c ks ms) (.ref a) []
  | scr {a : Addr} {o : Obj} {is : List Int} (f : F a) (h : H a = some (.frz o (.lst (is.map V.int)))) : RM W F H (.scr is) (.ref a) []
inductive RMs (W : Wd) (F : Addr → Prop) (H : Hp) : List M → List V → List Addr → Prop
  | nil : RMs W F H [] [] []
  | cons {m : M} {v : V} {fp : List Addr} {ms : List M} {vs : List V} {fq : List Addr} (r : RM W F H m v fp) (t : RMs W F H ms vs fq) : RMs W F H (m :: ms) (v :: vs) (fp ++ fq)
inductive RFs (W : Wd) (F : Addr → Prop) (H : Hp) : List Nat → List M → List (Str × V) → List Addr → Prop
  | nil : RFs W F H [] [] [] []
  | cons {k : Nat} {m : M} {v : V} {fp : List Addr} {ks : List Nat} {ms : List M} {fs : List (Str × V)} {fq : List Addr} (r : RM W F H m v fp) (t : RFs W F H ks ms fs fq) : RFs W F H (k :: ks) (m :: ms) ((W.fld k, v) :: fs) (fp ++ fq)
end

section
variable {K : PySem.W.Frag} {F F' : Addr → Prop} {H H' : Hp}
theorem TupF.keep {a : Addr} {vs : List V} (t : TupF K F H a vs) (f : ∀ a, F a → F' a) (k : ∀ a o, F a → H a = some o → H' a = some o) : TupF K F' H' a vs := by
  rcases t with ⟨q, h⟩ | h
  · exact .inl ⟨f _ q, k _ _ q h⟩
  · exact .inr h
mutual
theorem RD.keep (f : ∀ a, F a → F' a) (k : ∀ a o, F a → H a = some o → H' a = some o) : ∀ {d : D} {v : V}, RD K F H d v → RD K F' H' d v
  | _, _, .none => .none
  | _, _, .bool => .bool
  | _, _, .int => .int
  | _, _, .str ok ln => .str ok ln
  | _, _, .list q h ln r => .list (f _ q) (k _ _ q h) ln (RDs.keep f k r)
  | _, _, .tuple h ln r => .tuple (h.keep f k) ln (RDs.keep f k r)
  | _, _, .dict q h ln r => .dict (f _ q) (k _ _ q h) ln (RKs.keep f k r)
theorem RDs.keep (f : ∀ a, F a → F' a) (k : ∀ a o, F a → H a = some o → H' a = some o) : ∀ {ds : List D} {vs : List V}, RDs K F H ds vs → RDs K F' H' ds vs
  | _, _, .nil => .nil
  | _, _, .cons r t => .cons (RD.keep f k r) (RDs.keep f k t)
theorem RKs.keep (f : ∀ a, F a → F' a) (k : ∀ a o, F a → H a = some o → H' a = some o) : ∀ {ds : List (D × D)} {vs : List (Key × V)}, RKs K F H ds vs → RKs K F' H' ds vs
  | _, _, .nil => .nil
  | _, _, .cons hk rk r t => .cons hk (RD.keep f k rk) (RD.keep f k r) (RKs.keep f k t)
end
theorem RDs.length : ∀ {ds : List D} {vs : List V}, RDs K F H ds vs → ds.length = vs.length
  | _, _, .nil => rfl
  | _, _, .cons _ t => by simp [t.length]
theorem RDs.get : ∀ {ds : List D} {vs : List V} {i : Nat} {d : D}, RDs K F H ds vs → ds[i]? = some d → ∃ v, vs[i]? = some v ∧ RD K F H d v
  | _, _, _, _, .nil, e => by simp at e
  | _, _, 0, _, .cons r _, e => by simp at e; subst e; exact ⟨_, rfl, r⟩
  | _, _, i + 1, d, .cons _ t, e => by
    obtain ⟨v, h1, h2⟩ := RDs.get (i := i) (d := d) t (by simpa using e)
    exact ⟨v, by simpa using h1, h2⟩
theorem RDs.getV : ∀ {ds : List D} {vs : List V} {i : Nat} {v : V}, RDs K F H ds vs → vs[i]? = some v → ∃ d, ds[i]? = some d ∧ RD K F H d v
  | _, _, _, _, .nil, e => by simp at e
  | _, _, 0, _, .cons r _, e => by simp at e; subst e; exact ⟨_, rfl, r⟩
  | _, _, i + 1, v, .cons _ t, e => by
    obtain ⟨d, h1, h2⟩ := RDs.getV (i := i) (v := v) t (by simpa using e)
    exact ⟨d, by simpa using h1, h2⟩
theorem RDs.append : ∀ {ds es : List D} {vs us : List V}, RDs K F H ds vs → RDs K F H es us → RDs K F H (ds ++ es) (vs ++ us)
  | _, _, _, _, .nil, s => s
  | _, _, _, _, .cons r t, s => .cons r (RDs.append t s)
theorem RDs.take : ∀ (n : Nat) {ds : List D} {vs : List V}, RDs K F H ds vs → RDs K F H (ds.take n) (vs.take n)
  | 0, _, _, _ => .nil
  | _ + 1, _, _, .nil => .nil
  | n + 1, _, _, .cons r t => .cons r (RDs.take n t)
theorem RDs.drop : ∀ (n : Nat) {ds : List D} {vs : List V}, RDs K F H ds vs → RDs K F H (ds.drop n) (vs.drop n)
  | 0, _, _, r => r
  | _ + 1, _, _, .nil => .nil
  | n + 1, _, _, .cons _ t => RDs.drop n t
theorem RDs.set {d : D} {v : V} (q : RD K F H d v) : ∀ (i : Nat) {ds : List D} {vs : List V}, RDs K F H ds vs → RDs K F H (ds.set i d) (vs.set i v)
  | _, _, _, .nil => .nil
  | 0, _, _, .cons _ t => .cons q t
  | i + 1, _, _, .cons r t => .cons r (RDs.set q i t)
theorem RDs.reverse {ds : List D} {vs : List V} (h : RDs K F H ds vs) : RDs K F H ds.reverse vs.reverse := by
  induction ds generalizing vs with
  | nil => cases h; exact .nil
  | cons d ds ih =>
    cases h with
    | cons r t => rw [List.reverse_cons, List.reverse_cons]; exact (ih t).append (.cons r .nil)
theorem RDs.dropLast {ds : List D} {vs : List V} (h : RDs K F H ds vs) : RDs K F H ds.dropLast vs.dropLast := by
  rw [List.dropLast_eq_take, List.dropLast_eq_take, h.length]
  exact h.take _
end

section
variable {W : Wd} {F F' : Addr → Prop} {H H' : Hp}
mutual
theorem RM.keep (f : ∀ a, F a → F' a) (k : ∀ a o, F a → H a = some o → H' a = some o) : ∀ {m : M} {v : V} {fp : List Addr}, RM W F H m v fp → (∀ a ∈ fp, ∀ o, H a = some o → H' a = some o) → RM W F' H' m v fp
  | _, _, _, .dat r, _ => .dat (r.keep f k)
  | _, _, _, .sl h ln r, g => .sl (g _ (by simp) _ h) ln (r.keep f k)
  | _, _, _, .lst h ln r, g => .lst (g _ (by simp) _ h) ln (RMs.keep f k r fun a ha => g a (List.mem_cons_of_mem _ ha))
  | _, _, _, .tup q h ln r, g => .tup (f _ q) (k _ _ q h) ln (RMs.keep f k r g)
  | _, _, _, .dic h ln r, g => .dic (g _ (by simp) _ h) ln (r.keep f k)
  | _, _, _, .ins hc h n r, g => .ins hc (g _ (by simp) _ h) n (RFs.keep f k r fun a ha => g a (List.mem_cons_of_mem _ ha))
  | _, _, _, .insF hc q h n z r, g => .insF hc (f _ q) (k _ _ q h) n z (RFs.keep f k r g)
  | _, _, _, .scr q h, _ => .scr (f _ q) (k _ _ q h)
theorem RMs.keep (f : ∀ a, F a → F' a) (k : ∀ a o, F a → H a = some o → H' a = some o) : ∀ {ms : List M} {vs : List V} {fp : List Addr}, RMs W F H ms vs fp → (∀ a ∈ fp, ∀ o, H a = some o → H' a = some o) → RMs W F' H' ms vs fp
  | _, _, _, .nil, _ => .nil
  | _, _, _, .cons r t, g => .cons (RM.keep f k r fun a ha => g a (List.mem_append_left _ ha)) (RMs.keep f k t fun a ha => g a (List.mem_append_right _ ha))
theorem RFs.keep (f : ∀ a, F a → F' a) (k : ∀ a o, F a → H a = some o → H' a = some o) : ∀ {ks : List Nat} {ms : List M} {fs : List (Str × V)} {fp : List Addr}, RFs W F H ks ms fs fp → (∀ a ∈ fp, ∀ o, H a = some o → H' a = some o) → RFs W F' H' ks ms fs fp
  | _, _, _, _, .nil, _ => .nil
  | _, _, _, _, .cons r t, g => .cons (RM.keep f k r fun a ha => g a (List.mem_append_left _ ha)) (RFs.keep f k t fun a ha => g a (List.mem_append_right _ ha))
end
mutual
/-- what is owned stands -/
theorem RM.there : ∀ {m : M} {v : V} {fp : List Addr}, RM W F H m v fp → ∀ a ∈ fp, H a ≠ none
  | _, _, _, .dat _, a, ha => by simp at ha
  | _, _, _, .sl h _ _, a, ha => by simp at ha; subst ha; rw [h]; simp
  | _, _, _, .lst h _ r, a, ha => by
    rcases List.mem_cons.mp ha with rfl | ha
    · rw [h]; simp
    · exact RMs.there r a ha
  | _, _, _, .tup _ _ _ r, a, ha => RMs.there r a ha
  | _, _, _, .dic h _ _, a, ha => by simp at ha; subst ha; rw [h]; simp
  | _, _, _, .ins _ h _ r, a, ha => by
    rcases List.mem_cons.mp ha with rfl | ha
    · rw [h]; simp
    · exact RFs.there r a ha
  | _, _, _, .insF _ _ _ _ _ _, a, ha => by simp at ha
  | _, _, _, .scr _ _, a, ha => by simp at ha
theorem RMs.there : ∀ {ms : List M} {vs : List V} {fp : List Addr}, RMs W F H ms vs fp → ∀ a ∈ fp, H a ≠ none
  | _, _, _, .nil, a, ha => by simp at ha
  | _, _, _, .cons r t, a, ha => (List.mem_append.mp ha).elim (RM.there r a) (RMs.there t a)
theorem RFs.there : ∀ {ks : List Nat} {ms : List M} {fs : List (Str × V)} {fp : List Addr}, RFs W F H ks ms fs fp → ∀ a ∈ fp, H a ≠ none
  | _, _, _, _, .nil, a, ha => by simp at ha
  | _, _, _, _, .cons r t, a, ha => (List.mem_append.mp ha).elim (RM.there r a) (RFs.there t a)
end
theorem RMs.length : ∀ {ms : List M} {vs : List V} {fp : List Addr}, RMs W F H ms vs fp → ms.length = vs.length
  | _, _, _, .nil => rfl
  | _, _, _, .cons _ t => by simp [t.length]
/-- what is shared owns nothing -/
theorem RM.fz_nil {m : M} {v : V} {fp : List Addr} (r : RM W F H m v fp) (h : m.isFz = true) : fp = [] := by
  cases r <;> simp_all [M.isFz]
end
end QL
end
section
set_option linter.all false
set_option maxRecDepth 100000
set_option maxHeartbeats 1000000
/-! SA2: paths within what a slot owns. -/
namespace QL
open PySem PySem.Spec PyProof.Rows L2

def stepO (k : Nat) : M → Option M
  | .sl ds => ds[k]?.map .dat
  | .lst ms => ms[k]?
  | .tup ms => ms[k]?
  | .ins false _ ks ms => (ixOf k ks).bind fun i => ms[i]?
  | _ => none
def setChildO (k : Nat) (n : M) : M → Option M
  | .lst ms => if k < ms.length then some (.lst (ms.set k n)) else none
  | .tup ms => if k < ms.length then some (.tup (ms.set k n)) else none
  | .ins false c ks ms => (ixOf k ks).bind fun i => if i < ms.length then some (.ins false c ks (ms.set i n)) else none
  | _ => none
def atO : List Nat → M → Option M
  | [], m => some m
  | k :: p, m => (stepO k m).bind (atO p)
def setAtO (n : M) : List Nat → M → Option M
  | [], _ => some n
  | k :: p, m => (stepO k m).bind fun c => (setAtO n p c).bind fun c' => setChildO k c' m
theorem stepW_ex {k : Nat} {m : M} {K : M → Prop} (h : stepW k m K) : ∃ c, stepO k m = some c ∧ K c := by
  cases m with
  | sl ds => obtain ⟨d, e, h⟩ := h; exact ⟨_, by simp [stepO, e], h⟩
  | lst ms => obtain ⟨d, e, h⟩ := h; exact ⟨_, e, h⟩
  | tup ms => obtain ⟨d, e, h⟩ := h; exact ⟨_, e, h⟩
  | ins z c ks ms =>
    cases z with
    | true => exact h.elim
    | false =>
      simp only [stepW] at h
      split at h
      · rename_i i e
        split at h
        · rename_i m e2
          exact ⟨m, by simp [stepO, e, e2], h⟩
        · exact h.elim
      · exact h.elim
  | _ => exact h.elim
theorem setLW_ex {n : M} : ∀ {i : Nat} {ms : List M} {K : List M → Prop}, setLW n i ms K → i < ms.length ∧ K (ms.set i n)
  | i, [], _, h => by cases i <;> exact h.elim
  | 0, _ :: _, _, h => ⟨by simp, h⟩
  | i + 1, m :: r, K, h => by
    obtain ⟨h1, h2⟩ := setLW_ex (i := i) (ms := r) h
    exact ⟨by simpa using h1, h2⟩
theorem setChildW_ex {k : Nat} {n m : M} {K : M → Prop} (h : setChildW k n m K) : ∃ m', setChildO k n m = some m' ∧ K m' := by
  cases m with
  | lst ms => exact ⟨_, if_pos h.1, h.2⟩
  | tup ms => exact ⟨_, if_pos h.1, h.2⟩
  | ins z c ks ms =>
    cases z with
    | true => exact h.elim
    | false =>
      simp only [setChildW] at h
      split at h
      · rename_i i e
        obtain ⟨h1, h2⟩ := setLW_ex h
        exact ⟨_, by simp [setChildO, e, h1], h2⟩
      · exact h.elim
  | _ => exact h.elim
theorem atW_ex : ∀ {p : List Nat} {m : M} {K : M → Prop}, atW p m K → ∃ c, atO p m = some c ∧ K c
  | [], m, K, h => ⟨m, rfl, h⟩
  | k :: p, m, K, h => by
    obtain ⟨c, e, h⟩ := stepW_ex h
    obtain ⟨c', e', h⟩ := atW_ex h
    exact ⟨c', by simp [atO, e, e'], h⟩
theorem setAtW_ex {n : M} : ∀ {p : List Nat} {m : M} {K : M → Prop}, setAtW n p m K → ∃ c, setAtO n p m = some c ∧ K c
  | [], m, K, h => ⟨n, rfl, h⟩
  | k :: p, m, K, h => by
    obtain ⟨c, e, h⟩ := stepW_ex h
    obtain ⟨c', e', h⟩ := setAtW_ex h
    obtain ⟨m', e2, h⟩ := setChildW_ex h
    exact ⟨m', by simp [setAtO, e, e', e2], h⟩

/-- the value one step down -/
def ChildV (W : Wd) (H : Hp) (v : V) (k : Nat) (u : V) : Prop := ∃ a o, v = .ref a ∧ H a = some o ∧ match o with
  | .lst vs => vs[k]? = some u
  | .tup vs => vs[k]? = some u
  | .ins _ _ fs => fs.lookup (W.fld k) = some u
  | _ => False
def WalkV (W : Wd) (H : Hp) : V → List Nat → V → Prop
  | v, [], u => u = v
  | v, k :: p, u => ∃ x, ChildV W H v k x ∧ WalkV W H x p u
section
variable {W : Wd} {F F' : Addr → Prop} {H H' : Hp}
theorem ChildV.inj {v u u' : V} {k : Nat} (h : ChildV W H v k u) (h' : ChildV W H v k u') : u = u' := by
  obtain ⟨a, o, e, ho, q⟩ := h
  obtain ⟨a', o', e', ho', q'⟩ := h'
  rw [e] at e'
  cases e'
  rw [ho] at ho'
  cases ho'
  cases o <;> simp only at q q' <;> first | exact q.elim | (rw [q] at q'; exact Option.some.inj q')
theorem WalkV.inj : ∀ {p : List Nat} {v u u' : V}, WalkV W H v p u → WalkV W H v p u' → u = u'
  | [], _, _, _, h, h' => by rw [h, h']
  | _ :: _, _, _, _, ⟨x, c, h⟩, ⟨x', c', h'⟩ => by
    cases c.inj c'
    exact WalkV.inj h h'
theorem WalkV.app : ∀ {p q : List Nat} {v x u : V}, WalkV W H v p x → WalkV W H x q u → WalkV W H v (p ++ q) u
  | [], _, _, _, _, h, h' => by cases h; exact h'
  | _ :: _, _, _, _, _, ⟨y, c, h⟩, h' => ⟨y, c, WalkV.app h h'⟩
theorem ixOf_get : ∀ {ks : List Nat} {k i : Nat}, ixOf k ks = some i → ks[i]? = some k
  | [], _, _, h => by simp [ixOf] at h
  | j :: r, k, i, h => by
    unfold ixOf at h
    split at h
    · rename_i e
      cases h
      simp [Nat.eq_of_beq_eq_true e]
    · cases e : ixOf k r with
      | none => rw [e] at h; cases h
      | some i' =>
        rw [e] at h
        cases h
        simpa using ixOf_get e
/-- what may change under a part -/
structure Keeps (F F' : Addr → Prop) (H H' : Hp) (rest : List Addr) : Prop where
  f : ∀ a, F a → F' a
  k : ∀ a o, F a → H a = some o → H' a = some o
  r : ∀ a ∈ rest, ∀ o, H a = some o → H' a = some o
theorem Keeps.sub {rest rest' : List Addr} (k : Keeps F F' H H' rest) (s : ∀ a ∈ rest', a ∈ rest) : Keeps F F' H H' rest' := ⟨k.f, k.k, fun a ha => k.r a (s a ha)⟩
theorem RMs.part : ∀ {ms : List M} {vs : List V} {fp : List Addr} {k : Nat} {c : M}, RMs W F H ms vs fp → ms[k]? = some c →
    ∃ u fq rest, vs[k]? = some u ∧ RM W F H c u fq ∧ fp.Perm (rest ++ fq) ∧ ∀ (F' : Addr → Prop) (H' : Hp) (c' : M) (fq' : List Addr), Keeps F F' H H' rest → RM W F' H' c' u fq' → ∃ fp', RMs W F' H' (ms.set k c') vs fp' ∧ fp'.Perm (rest ++ fq')
  | _, _, _, _, _, .nil, e => by simp at e
  | _, _, _, 0, c, .cons (fp := fp) (fq := fq) (v := v) r t, e => by
    simp at e; subst e
    exact ⟨v, fp, fq, rfl, r, List.perm_append_comm, fun F' H' c' fq' kp r' => ⟨fq' ++ fq, .cons r' (t.keep kp.f kp.k kp.r), List.perm_append_comm⟩⟩
  | _, _, _, k + 1, c, .cons (fp := fp) (fq := fq) (v := v) r t, e => by
    obtain ⟨u, fc, rest, h1, h2, h3, h4⟩ := RMs.part t (k := k) (c := c) (by simpa using e)
    refine ⟨u, fc, fp ++ rest, by simpa using h1, h2, ?_, fun F' H' c' fq' kp r' => ?_⟩
    · rw [List.append_assoc]; exact List.Perm.append_left _ h3
    · obtain ⟨fp', q1, q2⟩ := h4 F' H' c' fq' (kp.sub fun a ha => List.mem_append_right _ ha) r'
      refine ⟨fp ++ fp', .cons (r.keep kp.f kp.k fun a ha => kp.r a (List.mem_append_left _ ha)) q1, ?_⟩
      rw [List.append_assoc]; exact List.Perm.append_left _ q2
theorem RFs.keys : ∀ {ks : List Nat} {ms : List M} {fs : List (Str × V)} {fp : List Addr}, RFs W F H ks ms fs fp → fs.map (·.1) = ks.map W.fld
  | _, _, _, _, .nil => rfl
  | _, _, _, _, .cons _ t => by simp [RFs.keys t]
theorem RFs.len : ∀ {ks : List Nat} {ms : List M} {fs : List (Str × V)} {fp : List Addr}, RFs W F H ks ms fs fp → ks.length = ms.length ∧ ks.length = fs.length
  | _, _, _, _, .nil => ⟨rfl, rfl⟩
  | _, _, _, _, .cons _ t => by obtain ⟨a, b⟩ := RFs.len t; exact ⟨by simp [a], by simp [b]⟩
theorem RFs.part {k : Nat} {c : M} : ∀ {ks : List Nat} {ms : List M} {fs : List (Str × V)} {fp : List Addr} {i : Nat}, ks.Nodup → RFs W F H ks ms fs fp → ks[i]? = some k → ms[i]? = some c →
    ∃ u fq rest, fs.lookup (W.fld k) = some u ∧ RM W F H c u fq ∧ fp.Perm (rest ++ fq) ∧ ∀ (F' : Addr → Prop) (H' : Hp) (c' : M) (fq' : List Addr), Keeps F F' H H' rest → RM W F' H' c' u fq' → ∃ fp', RFs W F' H' ks (ms.set i c') fs fp' ∧ fp'.Perm (rest ++ fq')
  | [], _, _, _, _, _, _, e, _ => by simp at e
  | k0 :: ks, ms, fs, fp, i, nd, r, e, e2 => by
    cases r with
    | @cons _ m v fp _ ms fs fq r t =>
    cases i with
    | zero =>
      simp at e e2; subst e; subst e2
      exact ⟨v, fp, fq, by simp [List.lookup], r, List.perm_append_comm, fun F' H' c' fq' kp r' => ⟨fq' ++ fq, .cons r' (t.keep kp.f kp.k kp.r), List.perm_append_comm⟩⟩
    | succ i =>
      have nd' := List.nodup_cons.mp nd
      have e : ks[i]? = some k := by simpa using e
      have hk := List.mem_of_getElem? e
      obtain ⟨u, fc, rest, h1, h2, h3, h4⟩ := RFs.part nd'.2 t e (show ms[i]? = some c by simpa using e2)
      refine ⟨u, fc, fp ++ rest, ?_, h2, ?_, fun F' H' c' fq' kp r' => ?_⟩
      · have hne : ¬ W.fld k = W.fld k0 := fun q => nd'.1 (W.fldInj _ _ q ▸ hk)
        have : (W.fld k == W.fld k0) = false := by simpa using hne
        simp [List.lookup, this, h1]
      · rw [List.append_assoc]; exact List.Perm.append_left _ h3
      · obtain ⟨fp', q1, q2⟩ := h4 F' H' c' fq' (kp.sub fun a ha => List.mem_append_right _ ha) r'
        refine ⟨fp ++ fp', .cons (r.keep kp.f kp.k fun a ha => kp.r a (List.mem_append_left _ ha)) q1, ?_⟩
        rw [List.append_assoc]; exact List.Perm.append_left _ q2
/-- one step down: the part, and what it is to put another thing in its place -/
theorem RM.step {m c : M} {v : V} {fp : List Addr} {k : Nat} (r : RM W F H m v fp) (e : stepO k m = some c) :
    ∃ u fq rest, ChildV W H v k u ∧ RM W F H c u fq ∧ fp.Perm (rest ++ fq) ∧ ∀ (F' : Addr → Prop) (H' : Hp), Keeps F F' H H' rest → ChildV W H' v k u ∧
      ∀ (c' : M) (fq' : List Addr) (m' : M), RM W F' H' c' u fq' → setChildO k c' m = some m' → ∃ fp', RM W F' H' m' v fp' ∧ fp'.Perm (rest ++ fq') := by
  cases r with
  | dat _ => simp [stepO] at e
  | dic _ _ _ => simp [stepO] at e
  | insF _ _ _ _ _ => simp [stepO] at e
  | scr _ _ => simp [stepO] at e
  | @sl a vs ds h ln r =>
    simp only [stepO, Option.map_eq_some_iff] at e
    obtain ⟨d, e, rfl⟩ := e
    obtain ⟨u, h1, h2⟩ := r.get e
    refine ⟨u, [], [a], ⟨a, _, rfl, h, h1⟩, .dat h2, by simp, fun F' H' kp => ⟨⟨a, _, rfl, kp.r a (by simp) _ h, h1⟩, fun c' fq' m' _ q => ?_⟩⟩
    simp [setChildO] at q
  | @lst a vs ms fp h ln r =>
    obtain ⟨u, fq, rest, h1, h2, h3, h4⟩ := r.part e
    refine ⟨u, fq, a :: rest, ⟨a, _, rfl, h, h1⟩, h2, List.Perm.cons a h3, fun F' H' kp => ⟨⟨a, _, rfl, kp.r a (by simp) _ h, h1⟩, fun c' fq' m' rc q => ?_⟩⟩
    simp only [setChildO] at q
    split at q
    · cases q
      obtain ⟨fp', q1, q2⟩ := h4 F' H' c' fq' (kp.sub fun a ha => List.mem_cons_of_mem _ ha) rc
      exact ⟨a :: fp', .lst (kp.r a (by simp) _ h) (by simpa using ln) q1, List.Perm.cons a q2⟩
    · cases q
  | @tup a vs ms _ f h ln r =>
    obtain ⟨u, fq, rest, h1, h2, h3, h4⟩ := r.part e
    refine ⟨u, fq, rest, ⟨a, _, rfl, h, h1⟩, h2, h3, fun F' H' kp => ⟨⟨a, _, rfl, kp.k a _ f h, h1⟩, fun c' fq' m' rc q => ?_⟩⟩
    simp only [setChildO] at q
    split at q
    · cases q
      obtain ⟨fp', q1, q2⟩ := h4 F' H' c' fq' kp rc
      exact ⟨fp', .tup (kp.f _ f) (kp.k a _ f h) (by simpa using ln) q1, q2⟩
    · cases q
  | @ins a dx C cc ks fs ms fp hc h n r =>
    simp only [stepO, Option.bind_eq_some_iff] at e
    obtain ⟨i, e1, e2⟩ := e
    obtain ⟨u, fq, rest, h1, h2, h3, h4⟩ := r.part n (ixOf_get e1) e2
    refine ⟨u, fq, a :: rest, ⟨a, _, rfl, h, h1⟩, h2, List.Perm.cons a h3, fun F' H' kp => ⟨⟨a, _, rfl, kp.r a (by simp) _ h, h1⟩, fun c' fq' m' rc q => ?_⟩⟩
    simp only [setChildO, e1, Option.bind_some] at q
    split at q
    · cases q
      obtain ⟨fp', q1, q2⟩ := h4 F' H' c' fq' (kp.sub fun a ha => List.mem_cons_of_mem _ ha) rc
      exact ⟨a :: fp', .ins hc (kp.r a (by simp) _ h) n q1, List.Perm.cons a q2⟩
    · cases q
theorem aheadEq_nil {p : List Nat} (h : aheadEq p [] = true) : p = [] := by
  cases p with
  | nil => rfl
  | cons a p => simp [aheadEq] at h
theorem aheadEq_cons {p q : List Nat} {b : Nat} (h : aheadEq p (b :: q) = true) : p = [] ∨ ∃ p', p = b :: p' ∧ aheadEq p' q = true := by
  cases p with
  | nil => exact .inl rfl
  | cons a p =>
    right
    unfold aheadEq at h
    split at h
    · rename_i e
      cases Nat.eq_of_beq_eq_true e
      exact ⟨p, rfl, h⟩
    · cases h
/-- down a path -/
theorem RM.path : ∀ {q : List Nat} {m c : M} {v : V} {fp : List Addr}, RM W F H m v fp → atO q m = some c →
    ∃ u fq rest, WalkV W H v q u ∧ RM W F H c u fq ∧ fp.Perm (rest ++ fq) ∧ ∀ (F' : Addr → Prop) (H' : Hp), Keeps F F' H H' rest →
      (∀ (p : List Nat) (x : V), aheadEq p q = true → WalkV W H v p x → WalkV W H' v p x) ∧
      ∀ (c' : M) (fq' : List Addr) (m' : M), RM W F' H' c' u fq' → setAtO c' q m = some m' → ∃ fp', RM W F' H' m' v fp' ∧ fp'.Perm (rest ++ fq')
  | [], m, c, v, fp, r, e => by
    cases e
    refine ⟨v, fp, [], rfl, r, by simp, fun F' H' kp => ⟨fun p x hp w => ?_, fun c' fq' m' rc q => ?_⟩⟩
    · cases aheadEq_nil hp; exact w
    · cases q; exact ⟨fq', rc, by simp⟩
  | k :: q, m, c, v, fp, r, e => by
    simp only [atO, Option.bind_eq_some_iff] at e
    obtain ⟨c1, e1, e2⟩ := e
    obtain ⟨u1, f1, rest1, w1, r1, p1, s1⟩ := r.step e1
    obtain ⟨u, fq, rest, w, rc, p2, s2⟩ := RM.path r1 e2
    refine ⟨u, fq, rest1 ++ rest, ⟨u1, w1, w⟩, rc, ?_, fun F' H' kp => ?_⟩
    · refine p1.trans ?_
      rw [List.append_assoc]; exact List.Perm.append_left _ p2
    · obtain ⟨a1, b1⟩ := s1 F' H' (kp.sub fun a ha => List.mem_append_left _ ha)
      obtain ⟨a2, b2⟩ := s2 F' H' (kp.sub fun a ha => List.mem_append_right _ ha)
      refine ⟨fun p x hp wx => ?_, fun c' fq' m' rc' hs => ?_⟩
      · rcases aheadEq_cons hp with rfl | ⟨p', rfl, hp'⟩
        · exact wx
        · obtain ⟨y, cy, wy⟩ := wx
          cases cy.inj w1
          exact ⟨u1, a1, a2 p' x hp' wy⟩
      · simp only [setAtO, e1, Option.bind_some, Option.bind_eq_some_iff] at hs
        obtain ⟨c2, hs1, hs2⟩ := hs
        obtain ⟨fp2, q1, q2⟩ := b2 c' fq' c2 rc' hs1
        obtain ⟨fp3, q3, q4⟩ := b1 c2 fp2 m' q1 hs2
        refine ⟨fp3, q3, q4.trans ?_⟩
        rw [List.append_assoc]; exact List.Perm.append_left _ q2
end
end QL
end
section
set_option linter.all false
set_option maxRecDepth 100000
set_option maxHeartbeats 1000000
/-! SA3: the slots in the abstract heap; a step; a thing put in another's place. -/
namespace QL
open PySem PySem.Spec PyProof.Rows L2

/-! ### the list steps, said plainly -/
theorem nthW_ex : ∀ {σ : Env} {i : Nat} {K : SV → Prop}, nthW σ i K → ∃ s, σ[i]? = some (some s) ∧ K s
  | [], _, _, h => h.elim
  | none :: _, 0, _, h => h.elim
  | some s :: _, 0, _, h => ⟨s, rfl, h⟩
  | x :: r, n + 1, K, h => by
    have h : nthW r n K := by cases x <;> exact h
    obtain ⟨s, e, h⟩ := nthW_ex (σ := r) h
    exact ⟨s, by simpa using e, h⟩
theorem setW_ex {x : Option SV} : ∀ {i : Nat} {σ : Env} {K : Env → Prop}, setW x i σ K → i < σ.length ∧ K (σ.set i x)
  | i, [], _, h => by cases i <;> exact h.elim
  | 0, _ :: _, _, h => ⟨by simp, h⟩
  | i + 1, m :: r, K, h => by
    obtain ⟨h1, h2⟩ := setW_ex (i := i) (σ := r) h
    exact ⟨by simpa using h1, h2⟩
theorem pushW_ex {x : Option SV} : ∀ {σ : Env} {K : Env → Prop}, pushW x σ K → K (σ ++ [x])
  | [], _, h => h
  | _ :: r, _, h => pushW_ex (σ := r) h
theorem popW_ex : ∀ {σ : Env} {K : Option SV → Env → Prop}, popW σ K → ∃ s r, σ = r ++ [s] ∧ K s r
  | [], _, h => h.elim
  | [s], _, h => ⟨s, [], rfl, h⟩
  | a :: b :: r, K, h => by
    obtain ⟨s, t, e, h⟩ := popW_ex (σ := b :: r) h
    exact ⟨s, a :: t, by rw [e]; rfl, h⟩
theorem lastW_ex : ∀ {σ : Env} {K : SV → Prop}, lastW σ K → ∃ s r, σ = r ++ [some s] ∧ K s
  | [], _, h => h.elim
  | [some s], _, h => ⟨s, [], rfl, h⟩
  | [none], _, h => h.elim
  | a :: b :: r, K, h => by
    have h : lastW (b :: r) K := by cases a <;> exact h
    obtain ⟨s, t, e, h⟩ := lastW_ex (σ := b :: r) h
    exact ⟨s, a :: t, by rw [e]; rfl, h⟩
theorem forceW_eq {s : Option SV} {K : Option SV → Prop} (h : forceW s K) : K s := by
  rcases s with _ | ⟨m⟩ | ⟨i, p⟩ | ⟨c, m⟩ | ⟨c⟩ | ⟨i⟩ <;> exact h
theorem mapW_eq {f : Option SV → Option SV} : ∀ {σ : Env} {K : Env → Prop}, mapW f σ K → K (σ.map f)
  | [], _, h => h
  | s :: r, K, h => mapW_eq (σ := r) (forceW_eq h)

/-! ### flat lists -/
theorem flat_set {i : Nat} {fp : List Addr} : ∀ {fps : List (List Addr)}, fps[i]? = some fp → ∃ oth : List Addr, fps.flatten.Perm (oth ++ fp) ∧ ∀ fq, (fps.set i fq).flatten.Perm (oth ++ fq) := by
  intro fps
  induction fps generalizing i with
  | nil => intro e; simp at e
  | cons f r ih =>
    intro e
    cases i with
    | zero =>
      simp at e; subst e
      exact ⟨r.flatten, by simpa using List.perm_append_comm, fun fq => by simpa using List.perm_append_comm⟩
    | succ i =>
      obtain ⟨oth, h1, h2⟩ := ih (i := i) (by simpa using e)
      refine ⟨f ++ oth, ?_, fun fq => ?_⟩
      · rw [List.flatten_cons, List.append_assoc]; exact List.Perm.append_left _ h1
      · rw [List.set_cons_succ, List.flatten_cons, List.append_assoc]; exact List.Perm.append_left _ (h2 fq)
theorem mem_flat {fps : List (List Addr)} {i : Nat} {fp : List Addr} {a : Addr} (h : fps[i]? = some fp) (ha : a ∈ fp) : a ∈ fps.flatten :=
  List.mem_flatten.mpr ⟨fp, List.mem_of_getElem? h, ha⟩
theorem flat_apart {i j : Nat} {fp fq : List Addr} {a : Addr} : ∀ {fps : List (List Addr)}, fps.flatten.Nodup → fps[i]? = some fp → fps[j]? = some fq → i ≠ j → a ∈ fp → a ∉ fq := by
  intro fps
  induction fps generalizing i j with
  | nil => intro _ e; simp at e
  | cons f r ih =>
    intro nd hi hj hij ha hb
    rw [List.flatten_cons, List.nodup_append] at nd
    cases i with
    | zero =>
      cases j with
      | zero => exact hij rfl
      | succ j =>
        simp at hi; subst hi
        exact nd.2.2 a ha a (mem_flat (by simpa using hj) hb) rfl
    | succ i =>
      cases j with
      | zero =>
        simp at hj; subst hj
        exact nd.2.2 a hb a (mem_flat (by simpa using hi) ha) rfl
      | succ j => exact ih (i := i) (j := j) nd.2.1 (by simpa using hi) (by simpa using hj) (by omega) ha hb

/-! ### a moment -/
/-- what stays, the heap, the slots, their values, what they own -/
structure Wr where
  F : Addr → Prop
  H : Hp
  σ : Env
  w : List (Option V)
  fps : List (List Addr)
abbrev Wr.A (r : Wr) : List Addr := r.fps.flatten
/-- a slot's content at its value; E: the caught exceptions that are at hand (place, class, own dict) -/
def SlotR (W : Wd) (E : List (Addr × Nat × Addr)) (r : Wr) (v : V) (fp : List Addr) : SV → Prop
  | .v m => RM W r.F r.H m v fp
  | .al j p => fp = [] ∧ ∃ m v0 c, r.σ[j]? = some (some (.v m)) ∧ r.w[j]? = some (some v0) ∧ atO p m = some c ∧ WalkV W r.H v0 p v
  | .exc c m => ∃ a d pv, (a, c, d) ∈ E ∧ v = .ref a ∧ r.F d ∧ r.H d = some (.xd [(W.fld f_value, pv)]) ∧ RM W r.F r.H m pv fp
  | .exg c => fp = [] ∧ ∃ a d, (a, c, d) ∈ E ∧ v = .ref a
  | .xr _ => False
structure ER (W : Wd) (E : List (Addr × Nat × Addr)) (r : Wr) : Prop where
  lw : r.w.length = r.σ.length
  lf : r.fps.length = r.σ.length
  sl : ∀ (i : Nat) (s : SV), r.σ[i]? = some (some s) → ∃ (v : V) (fp : List Addr), r.w[i]? = some (some v) ∧ r.fps[i]? = some fp ∧ SlotR W E r v fp s
  nd : r.A.Nodup
  nf : ∀ a ∈ r.A, ¬ r.F a
  df : ∀ a, r.F a → r.H a ≠ none
  da : ∀ a ∈ r.A, r.H a ≠ none
/-- from one moment to a later one -/
structure Stp (F : Addr → Prop) (H : Hp) (A : List Addr) (F' : Addr → Prop) (H' : Hp) (A' : List Addr) : Prop where
  f : ∀ a, F a → F' a
  k : ∀ a o, H a = some o → a ∉ A → H' a = some o
  a : ∀ a ∈ A', a ∈ A ∨ H a = none
  g : ∀ a, F' a → F a ∨ a ∈ A ∨ H a = none
section
variable {F F1 F2 : Addr → Prop} {H H1 H2 : Hp} {A A1 A2 B B1 : List Addr}
theorem Stp.refl : Stp F H A F H A := ⟨fun _ h => h, fun _ _ h _ => h, fun _ h => .inl h, fun _ h => .inl h⟩
theorem Stp.trans (h : Stp F H A F1 H1 A1) (q : Stp F1 H1 A1 F2 H2 A2) : Stp F H A F2 H2 A2 := by
  have back : ∀ a, H1 a = none → a ∈ A ∨ H a = none := fun a e => by
    by_cases ha : a ∈ A
    · exact .inl ha
    · right
      cases e' : H a with
      | none => rfl
      | some o => rw [h.k a o e' ha] at e; cases e
  refine ⟨fun a z => q.f a (h.f a z), fun a o e n => ?_, fun a z => ?_, fun a z => ?_⟩
  · refine q.k a o (h.k a o e n) fun z => ?_
    rcases h.a a z with z | z
    · exact n z
    · rw [e] at z; cases z
  · rcases q.a a z with z | z
    · exact h.a a z
    · exact back a z
  · rcases q.g a z with z | z | z
    · exact h.g a z
    · exact .inr (h.a a z)
    · exact .inr (back a z)
theorem Stp.sub (h : Stp F H A F1 H1 A1) (s : ∀ a ∈ B1, a ∈ A1) : Stp F H A F1 H1 B1 := ⟨h.f, h.k, fun a z => h.a a (s a z), h.g⟩
theorem Stp.more (h : Stp F H A F1 H1 A1) (s : ∀ a ∈ A, a ∈ B) : Stp F H B F1 H1 A1 :=
  ⟨h.f, fun a o e n => h.k a o e fun z => n (s a z), fun a z => (h.a a z).imp (s a) id, fun a z => (h.g a z).imp id (Or.imp (s a) id)⟩
/-- what waits outside is kept -/
theorem Stp.waits {W : Wd} {m : M} {v : V} {fp : List Addr} (h : Stp F H A F1 H1 A1) (r : RM W F H m v fp) (sep : ∀ a ∈ fp, a ∉ A) (nf : ∀ a, F a → a ∉ A) (dF : ∀ a, F a → H a ≠ none) : RM W F1 H1 m v fp :=
  r.keep h.f (fun a o q e => h.k a o e (nf a q)) fun a ha o e => h.k a o e (sep a ha)
theorem Stp.apart {fp : List Addr} (h : Stp F H A F1 H1 A1) (th : ∀ a ∈ fp, H a ≠ none) (sep : ∀ a ∈ fp, a ∉ A) : ∀ a ∈ fp, a ∉ A1 := fun a ha z => by
  rcases h.a a z with z | z
  · exact sep a ha z
  · exact th a ha z
theorem Stp.notF {fp : List Addr} (h : Stp F H A F1 H1 A1) (th : ∀ a ∈ fp, H a ≠ none) (sep : ∀ a ∈ fp, a ∉ A) (nf : ∀ a ∈ fp, ¬ F a) : ∀ a ∈ fp, ¬ F1 a := fun a ha z => by
  rcases h.g a z with z | z | z
  · exact nf a ha z
  · exact sep a ha z
  · exact th a ha z
end
section
variable {W : Wd} {E : List (Addr × Nat × Addr)} {r r' : Wr}
theorem ER.slV (h : ER W E r) {i : Nat} {m : M} (e : r.σ[i]? = some (some (.v m))) : ∃ v fp, r.w[i]? = some (some v) ∧ r.fps[i]? = some fp ∧ RM W r.F r.H m v fp := h.sl i _ e
theorem ER.nfA (h : ER W E r) : ∀ a, r.F a → a ∉ r.A := fun a f z => h.nf a z f
/-- aliases of a thing that is kept are kept -/
theorem WalkV.keep {F F' : Addr → Prop} {H H' : Hp} {m c : M} {v x : V} {fp p : List Addr} (r : RM W F H m v fp) (e : atO p m = some c) (f : ∀ a, F a → F' a) (k : ∀ a o, F a → H a = some o → H' a = some o)
    (g : ∀ a ∈ fp, ∀ o, H a = some o → H' a = some o) (h : WalkV W H v p x) : WalkV W H' v p x := by
  obtain ⟨u, fq, rest, w, _, pm, s⟩ := r.path e
  refine ((s F' H' ⟨f, k, fun a ha => g a ?_⟩).1 p x ?_ h)
  · exact pm.mem_iff.mpr (List.mem_append_left _ ha)
  · have refl : ∀ l : List Nat, aheadEq l l = true := fun l => by
      induction l with
      | nil => rfl
      | cons a l ih => unfold aheadEq; simp [ih]
    exact refl p
/-- a slot in a later moment in which it is kept -/
theorem SlotR.keep {v : V} {fp : List Addr} {s : SV} (h : ER W E r) (q : SlotR W E r v fp s) (f : ∀ a, r.F a → r'.F a) (k : ∀ a o, r.F a → r.H a = some o → r'.H a = some o)
    (g : ∀ a ∈ fp, ∀ o, r.H a = some o → r'.H a = some o)
    (al : ∀ j p, s = .al j p → ∃ m v0 c, r'.σ[j]? = some (some (.v m)) ∧ r'.w[j]? = some (some v0) ∧ atO p m = some c ∧ WalkV W r'.H v0 p v) : SlotR W E r' v fp s := by
  cases s with
  | v m => exact RM.keep f k q g
  | al j p => exact ⟨q.1, al j p rfl⟩
  | exc c m =>
    obtain ⟨a, d, pv, hE, hv, hf, hd, hm⟩ := q
    exact ⟨a, d, pv, hE, hv, f _ hf, k _ _ hf hd, RM.keep f k hm g⟩
  | exg c => exact q
  | xr i => exact q
/-- everything that a moment owns is kept, the heap may grow -/
theorem ER.grow (h : ER W E r) {F' : Addr → Prop} {H' : Hp} (f : ∀ a, r.F a → F' a) (k : ∀ a o, r.H a = some o → H' a = some o) (g : ∀ a, F' a → r.F a ∨ r.H a = none) (df : ∀ a, F' a → H' a ≠ none) :
    ER W E { r with F := F', H := H' } := by
  refine ⟨h.lw, h.lf, fun i s e => ?_, h.nd, fun a ha z => ?_, df, fun a ha => ?_⟩
  · obtain ⟨v, fp, h1, h2, q⟩ := h.sl i s e
    refine ⟨v, fp, h1, h2, q.keep (r' := { r with F := F', H := H' }) h f (fun a o _ e => k a o e) (fun a _ o e => k a o e) fun j p hs => ?_⟩
    subst hs
    obtain ⟨_, m, v0, c, e1, e2, e3, w⟩ := q
    obtain ⟨v1, fp1, e4, _, rm⟩ := h.slV e1
    rw [e2] at e4; cases e4
    exact ⟨m, v0, c, e1, e2, e3, w.keep rm e3 f (fun a o _ e => k a o e) fun a _ o e => k a o e⟩
  · rcases g a z with z | z
    · exact h.nf a ha z
    · exact h.da a ha z
  · cases e : r.H a with
    | none => exact absurd e (h.da a ha)
    | some o => show H' a ≠ none; rw [k a o e]; simp
end
end QL
end
section
set_option linter.all false
set_option maxRecDepth 100000
set_option maxHeartbeats 1000000
/-! SA4: a thing is put in another's place within a slot. -/
namespace QL
open PySem PySem.Spec PyProof.Rows L2

theorem stepO_set_self {k : Nat} {n m m' : M} (h : setChildO k n m = some m') : stepO k m' = some n := by
  cases m with
  | lst ms =>
    simp only [setChildO] at h
    split at h
    · cases h; simp [stepO, *]
    · cases h
  | tup ms =>
    simp only [setChildO] at h
    split at h
    · cases h; simp [stepO, *]
    · cases h
  | ins z c ks ms =>
    cases z with
    | true => simp [setChildO] at h
    | false =>
      simp only [setChildO, Option.bind_eq_some_iff] at h
      obtain ⟨i, e, h⟩ := h
      split at h
      · cases h; simp [stepO, e, *]
      · cases h
  | _ => simp [setChildO] at h
theorem stepO_set_ne {k k' : Nat} {n m m' : M} (h : setChildO k n m = some m') (hk : k' ≠ k) : stepO k' m' = stepO k' m := by
  cases m with
  | lst ms =>
    simp only [setChildO] at h
    split at h
    · cases h; simp [stepO, List.getElem?_set_ne (Ne.symm hk)]
    · cases h
  | tup ms =>
    simp only [setChildO] at h
    split at h
    · cases h; simp [stepO, List.getElem?_set_ne (Ne.symm hk)]
    · cases h
  | ins z c ks ms =>
    cases z with
    | true => simp [setChildO] at h
    | false =>
      simp only [setChildO, Option.bind_eq_some_iff] at h
      obtain ⟨i, e, h⟩ := h
      split at h
      · cases h
        simp only [stepO]
        cases e' : ixOf k' ks with
        | none => rfl
        | some j =>
          have hne : i ≠ j := fun q => by
            subst q
            have a := ixOf_get e
            rw [ixOf_get e'] at a
            cases a
            exact hk rfl
          simp [List.getElem?_set_ne hne]
      · cases h
  | _ => simp [setChildO] at h
theorem beq_ne {a b : Nat} (h : a ≠ b) : Nat.beq a b = false := by
  cases e : Nat.beq a b with
  | false => rfl
  | true => exact absurd (Nat.eq_of_beq_eq_true e) h
theorem beq_self (a : Nat) : Nat.beq a a = true := Nat.beq_refl a
theorem aheadEq_refl : ∀ l : List Nat, aheadEq l l = true
  | [] => rfl
  | a :: l => by unfold aheadEq; rw [beq_self]; exact aheadEq_refl l
theorem above_of_ahead : ∀ {p q : List Nat}, aheadEq q p = true → above p q = false
  | [], [], _ => rfl
  | _ :: _, [], _ => rfl
  | [], _ :: _, h => by simp [aheadEq] at h
  | a :: p, b :: q, h => by
    unfold aheadEq at h
    split at h
    · rename_i e
      cases Nat.eq_of_beq_eq_true e
      unfold above
      rw [beq_self]
      exact above_of_ahead h
    · cases h
theorem keepAt {n : M} : ∀ {p p' : List Nat} {m m' c : M}, setAtO n p m = some m' → above p p' = false → atO p' m = some c → ∃ c', atO p' m' = some c'
  | [], [], _, m', _, _, _, _ => ⟨m', rfl⟩
  | [], _ :: _, _, _, _, _, h, _ => by simp [above] at h
  | _ :: _, [], _, m', _, _, _, _ => ⟨m', rfl⟩
  | k :: p, k' :: p', m, m', c, hs, h, ha => by
    simp only [setAtO, Option.bind_eq_some_iff] at hs
    obtain ⟨c1, e1, c2, e2, e3⟩ := hs
    simp only [atO, Option.bind_eq_some_iff] at ha
    obtain ⟨c3, e4, e5⟩ := ha
    by_cases hk : k = k'
    · subst hk
      rw [e1] at e4; cases e4
      have h' : above p p' = false := by
        unfold above at h
        rw [beq_self] at h
        exact h
      obtain ⟨c', q⟩ := keepAt e2 h' e5
      exact ⟨c', by simp [atO, stepO_set_self e3, q]⟩
    · exact ⟨c, by simp [atO, stepO_set_ne e3 (Ne.symm hk), e4, e5]⟩
theorem setAtO_at {n : M} : ∀ {p : List Nat} {m m' : M}, setAtO n p m = some m' → atO p m' = some n
  | [], _, _, h => by cases h; rfl
  | k :: p, m, m', h => by
    simp only [setAtO, Option.bind_eq_some_iff] at h
    obtain ⟨c1, e1, c2, e2, e3⟩ := h
    simp [atO, stepO_set_self e3, setAtO_at e2]

section
variable {W : Wd} {E : List (Addr × Nat × Addr)} {r : Wr}
theorem clrB_some {i : Nat} {p : List Nat} {x : Option SV} {s : SV} (h : clrB i p x = some s) : x = some s ∧ ∀ j q, s = .al j q → j = i → aheadEq q p = true := by
  rcases x with _ | s'
  · simp [clrB] at h
  · cases s' with
    | al j q =>
      simp only [clrB] at h
      split at h
      · rename_i e
        cases h
        refine ⟨rfl, fun j' q' e' ej => ?_⟩
        cases e'
        subst ej
        rw [beq_self] at e
        simpa using e
      · cases h
    | _ => simp only [clrB] at h; cases h; exact ⟨rfl, fun j q e => by cases e⟩
theorem clrU_some {i : Nat} {p : List Nat} {x : Option SV} {s : SV} (h : clrU i p x = some s) : x = some s ∧ ∀ j q, s = .al j q → j = i → above p q = false := by
  rcases x with _ | s'
  · simp [clrU] at h
  · cases s' with
    | al j q =>
      simp only [clrU] at h
      split at h
      · cases h
      · rename_i e
        cases h
        refine ⟨rfl, fun j' q' e' ej => ?_⟩
        cases e'
        subst ej
        rw [beq_self] at e
        simpa using e
    | _ => simp only [clrU] at h; cases h; exact ⟨rfl, fun j q e => by cases e⟩
theorem clr_some {i : Nat} {x : Option SV} {s : SV} (h : clr i x = some s) : x = some s ∧ ∀ j q, s = .al j q → j ≠ i := by
  rcases x with _ | s'
  · simp [clr] at h
  · cases s' with
    | al j q =>
      simp only [clr] at h
      split at h
      · cases h
      · rename_i e
        cases h
        refine ⟨rfl, fun j' q' e' ej => ?_⟩
        cases e'
        subst ej
        rw [beq_self] at e
        cases e
    | _ => simp only [clr] at h; cases h; exact ⟨rfl, fun j q e => by cases e⟩
/-- what a map of the slots must do: keep own things, keep or forget the rest -/
structure Tame (f : Option SV → Option SV) : Prop where
  v : ∀ m, f (some (.v m)) = some (.v m)
  s : ∀ x s, f x = some s → x = some s
theorem tame_B (i : Nat) (p : List Nat) : Tame (clrB i p) := ⟨fun _ => rfl, fun _ _ h => (clrB_some h).1⟩
theorem tame_U (i : Nat) (p : List Nat) : Tame (clrU i p) := ⟨fun _ => rfl, fun _ _ h => (clrU_some h).1⟩
theorem tame_C (i : Nat) : Tame (clr i) := ⟨fun _ => rfl, fun _ _ h => (clr_some h).1⟩
/-- the part at (i, p), and what it is to put another thing there -/
theorem ER.put (h : ER W E r) {i : Nat} {m0 c : M} {p : List Nat} (e : r.σ[i]? = some (some (.v m0))) (ec : atO p m0 = some c) :
    ∃ v0 u fq, r.w[i]? = some (some v0) ∧ WalkV W r.H v0 p u ∧ RM W r.F r.H c u fq ∧ (∀ a ∈ fq, a ∈ r.A) ∧ fq.Nodup ∧
      ∀ (F' : Addr → Prop) (H' : Hp) (c' m' : M) (fq' fr ex : List Addr) (f : Option SV → Option SV),
        (∀ a, r.F a → F' a) → (∀ a o, r.H a = some o → a ∉ fq → H' a = some o) → (∀ a, F' a → r.F a ∨ a ∈ fq ∨ r.H a = none) → (∀ a, F' a → H' a ≠ none) →
        RM W F' H' c' u fq' → setAtO c' p m0 = some m' → (fq' ++ fr).Nodup → (∀ a ∈ fq' ++ fr, (a ∈ fq ∨ (a ∈ ex ∧ a ∉ r.A) ∨ r.H a = none) ∧ ¬ F' a ∧ H' a ≠ none) →
        (f = clrB i p ∨ (f = clrU i p ∧ ∀ a o, r.H a = some o → H' a = some o)) →
        ∃ fps', ER W E ⟨F', H', (r.σ.set i (some (.v m'))).map f, r.w, fps'⟩ ∧ Stp r.F r.H (r.A ++ ex) F' H' (fps'.flatten ++ fr) ∧ (fps'.flatten ++ fr).Nodup ∧ ∀ a ∈ fq', a ∈ fps'.flatten := by
  obtain ⟨v0, fp0, hw, hf, rm0⟩ := h.slV e
  obtain ⟨u, fq, rest, wk, rc, pm, sub⟩ := rm0.path ec
  have fq0 : ∀ a ∈ fq, a ∈ fp0 := fun a ha => pm.mem_iff.mpr (List.mem_append_right _ ha)
  have rest0 : ∀ a ∈ rest, a ∈ fp0 := fun a ha => pm.mem_iff.mpr (List.mem_append_left _ ha)
  have fqA : ∀ a ∈ fq, a ∈ r.A := fun a ha => mem_flat hf (fq0 a ha)
  obtain ⟨oth, pA, pS⟩ := flat_set hf
  have ndA : (oth ++ (rest ++ fq)).Nodup := by
    refine (List.Perm.nodup_iff ?_).mp h.nd
    exact pA.trans (List.Perm.append_left _ pm)
  have nd3 := List.nodup_append.mp ndA
  have nd4 := List.nodup_append.mp nd3.2.1
  refine ⟨v0, u, fq, hw, wk, rc, fqA, nd4.2.1, fun F' H' c' m' fq' fr ex f hF hH hg hd rc' hs nd' hq hf2 => ?_⟩
  have iLt : i < r.σ.length := (List.getElem?_eq_some_iff.mp e).1
  have nFq : ∀ a, r.F a → a ∉ fq := fun a z ha => h.nf a (fqA a ha) z
  have kp : Keeps r.F F' r.H H' rest := ⟨hF, fun a o z q => hH a o q (nFq a z), fun a ha o q => hH a o q fun z => nd4.2.2 a ha a z rfl⟩
  obtain ⟨pre, repl⟩ := sub F' H' kp
  obtain ⟨fp', rm', pm'⟩ := repl c' fq' m' rc' hs
  have tame : Tame f := by
    rcases hf2 with rfl | ⟨rfl, _⟩
    · exact tame_B i p
    · exact tame_U i p
  have hgetS : ∀ (j : Nat) (s : SV), ((r.σ.set i (some (.v m'))).map f)[j]? = some (some s) → (j = i ∧ s = .v m') ∨ (j ≠ i ∧ r.σ[j]? = some (some s) ∧ f (some s) = some s) := fun j s q => by
    rw [List.getElem?_map, Option.map_eq_some_iff] at q
    obtain ⟨x, q1, q2⟩ := q
    have q3 := tame.s _ _ q2
    subst q3
    by_cases hj : j = i
    · subst hj
      rw [List.getElem?_set_self iLt] at q1
      cases q1
      exact .inl ⟨rfl, rfl⟩
    · rw [List.getElem?_set_ne (Ne.symm hj)] at q1
      exact .inr ⟨hj, q1, q2⟩
  have hsetV : ∀ (j : Nat) (m : M), j ≠ i → r.σ[j]? = some (some (.v m)) → ((r.σ.set i (some (.v m'))).map f)[j]? = some (some (.v m)) := fun j m hj q => by
    rw [List.getElem?_map, List.getElem?_set_ne (Ne.symm hj), q]
    exact congrArg some (tame.v m)
  have hsetI : ((r.σ.set i (some (.v m'))).map f)[i]? = some (some (.v m')) := by
    rw [List.getElem?_map, List.getElem?_set_self iLt]
    exact congrArg some (tame.v m')
  have pA' : (r.fps.set i fp').flatten.Perm (oth ++ (rest ++ fq')) := (pS fp').trans (List.Perm.append_left _ pm')
  have pAr : ((r.fps.set i fp').flatten ++ fr).Perm ((oth ++ rest) ++ (fq' ++ fr)) := by
    refine (List.Perm.append_right fr pA').trans ?_
    simp [List.append_assoc]
  have hOR : ∀ a ∈ oth ++ rest, r.H a ≠ none ∧ a ∉ fq ∧ a ∈ r.A := fun a ha => by
    have hA : a ∈ r.A := pA.mem_iff.mpr (by
      rcases List.mem_append.mp ha with z | z
      · exact List.mem_append_left _ z
      · exact List.mem_append_right _ (rest0 a z))
    refine ⟨h.da a hA, fun z => ?_, hA⟩
    rcases List.mem_append.mp ha with y | y
    · exact nd3.2.2 a y a (List.mem_append_right _ z) rfl
    · exact nd4.2.2 a y a z rfl
  have ndOR : (oth ++ rest).Nodup := by
    have : ((oth ++ rest) ++ fq).Nodup := by rw [List.append_assoc]; exact ndA
    exact (List.nodup_append.mp this).1
  have ndR : ((r.fps.set i fp').flatten ++ fr).Nodup := by
    refine (List.Perm.nodup_iff pAr).mpr ?_
    refine List.nodup_append.mpr ⟨ndOR, nd', fun a ha b hb z => ?_⟩
    subst z
    obtain ⟨n1, n2, n3⟩ := hOR a ha
    rcases (hq a hb).1 with z | z | z
    · exact n2 z
    · exact z.2 n3
    · exact n1 z
  refine ⟨r.fps.set i fp', ⟨?_, ?_, fun j s q => ?_, (List.nodup_append.mp ndR).1, fun a ha z => ?_, hd, fun a ha => ?_⟩, ⟨hF, fun a o q n => hH a o q fun z => n (List.mem_append_left _ (fqA a z)), fun a ha => ?_, fun a z => ?_⟩, ndR, fun a ha => pA'.mem_iff.mpr (List.mem_append_right _ (List.mem_append_right _ ha))⟩
  · show r.w.length = _
    rw [List.length_map, List.length_set]; exact h.lw
  · show (r.fps.set i fp').length = _
    rw [List.length_map, List.length_set, List.length_set]; exact h.lf
  · rcases hgetS j s q with ⟨rfl, rfl⟩ | ⟨hj, q1, q2⟩
    · refine ⟨v0, fp', hw, ?_, rm'⟩
      show (r.fps.set j fp')[j]? = _
      rw [List.getElem?_set_self (by rw [h.lf]; exact iLt)]
    · obtain ⟨v, fp, h1, h2, qs⟩ := h.sl j s q1
      refine ⟨v, fp, h1, ?_, qs.keep h hF (fun a o z q => hH a o q (nFq a z)) (fun a ha o q => hH a o q fun z => flat_apart h.nd h2 hf hj ha (fq0 a z)) fun j0 q0 hal => ?_⟩
      · show (r.fps.set i fp')[j]? = _
        rw [List.getElem?_set_ne (Ne.symm hj)]; exact h2
      · subst hal
        obtain ⟨_, m, v1, c1, e1, e2, e3, wx⟩ := qs
        by_cases hji : j0 = i
        · subst hji
          rw [e] at e1; cases e1
          rw [hw] at e2; cases e2
          have ab : above p q0 = false := by
            rcases hf2 with rfl | ⟨rfl, _⟩
            · exact above_of_ahead ((clrB_some q2).2 _ _ rfl rfl)
            · exact (clrU_some q2).2 _ _ rfl rfl
          obtain ⟨c2, e5⟩ := keepAt hs ab e3
          refine ⟨m', v0, c2, hsetI, hw, e5, ?_⟩
          rcases hf2 with rfl | ⟨rfl, hH2⟩
          · exact pre q0 v ((clrB_some q2).2 _ _ rfl rfl) wx
          · exact wx.keep rm0 e3 hF (fun a o _ q => hH2 a o q) fun a _ o q => hH2 a o q
        · obtain ⟨v2, fp2, e4, e5, rm2⟩ := h.slV e1
          rw [e2] at e4; cases e4
          exact ⟨m, v1, c1, hsetV j0 m hji e1, e2, e3, wx.keep rm2 e3 hF (fun a o z q => hH a o q (nFq a z)) fun a ha o q => hH a o q fun z => flat_apart h.nd e5 hf hji ha (fq0 a z)⟩
  · have ha' := pA'.mem_iff.mp ha
    rcases List.mem_append.mp ha' with y | y
    · obtain ⟨n1, n2, n3⟩ := hOR a (List.mem_append_left _ y)
      rcases hg a z with z | z | z
      · exact h.nf a n3 z
      · exact n2 z
      · exact n1 z
    · rcases List.mem_append.mp y with y | y
      · obtain ⟨n1, n2, n3⟩ := hOR a (List.mem_append_right _ y)
        rcases hg a z with z | z | z
        · exact h.nf a n3 z
        · exact n2 z
        · exact n1 z
      · exact (hq a (List.mem_append_left _ y)).2.1 z
  · have ha' := pA'.mem_iff.mp ha
    rw [← List.append_assoc] at ha'
    rcases List.mem_append.mp ha' with y | y
    · obtain ⟨n1, n2, _⟩ := hOR a y
      cases q : r.H a with
      | none => exact absurd q n1
      | some o => show H' a ≠ none; rw [hH a o q n2]; simp
    · exact (hq a (List.mem_append_left _ y)).2.2
  · have ha' := pAr.mem_iff.mp ha
    rcases List.mem_append.mp ha' with y | y
    · exact .inl (List.mem_append_left _ (hOR a y).2.2)
    · rcases (hq a y).1 with y | y | y
      · exact .inl (List.mem_append_left _ (fqA a y))
      · exact .inl (List.mem_append_right _ y.1)
      · exact .inr y
  · exact (hg a z).imp id (Or.imp (fun y => List.mem_append_left _ (fqA a y)) id)
end
end QL
end
section
set_option linter.all false
set_option maxRecDepth 100000
set_option maxHeartbeats 1000000
/-! SA5: reading, sharing, storing. -/
namespace QL
open PySem PySem.Spec PyProof.Rows L2

section
variable {W : Wd} {F F' : Addr → Prop} {H : Hp}
theorem pys_len : ∀ {ms : List M} {ds : List D}, M.pys ms = some ds → ds.length = ms.length
  | [], ds, e => by simp [M.pys] at e; subst e; rfl
  | m :: ms, ds, e => by
    simp only [M.pys] at e
    split at e
    · rename_i d ds' e1 e2
      cases e
      simp [pys_len e2]
    · cases e
mutual
theorem RM.py (f : ∀ a, F a → F' a) : ∀ {m : M} {d : D} {v : V} {fp : List Addr}, RM W F H m v fp → (∀ a ∈ fp, F' a) → m.pyO = some d → RD W.K F' H d v
  | _, d, _, _, .dat r, g, e => by simp [M.pyO] at e; subst e; exact r.keep f fun _ _ _ h => h
  | _, d, _, _, .sl h ln r, g, e => by simp [M.pyO] at e; subst e; exact .list (g _ (by simp)) h ln (r.keep f fun _ _ _ h => h)
  | .lst ms, d, _, _, .lst h ln r, g, e => by
    simp only [M.pyO, Option.map_eq_some_iff] at e
    obtain ⟨ds, e, rfl⟩ := e
    exact .list (g _ (by simp)) h (by rw [pys_len e]; exact ln) (RMs.py f r (fun a ha => g a (List.mem_cons_of_mem _ ha)) e)
  | .tup ms, d, _, _, .tup q h ln r, g, e => by
    simp only [M.pyO, Option.map_eq_some_iff] at e
    obtain ⟨ds, e, rfl⟩ := e
    exact .tuple (.inl ⟨f _ q, h⟩) (by rw [pys_len e]; exact ln) (RMs.py f r g e)
  | _, d, _, _, .dic h ln r, g, e => by simp [M.pyO] at e; subst e; exact .dict (g _ (by simp)) h ln (r.keep f fun _ _ _ h => h)
  | _, _, _, _, .ins _ _ _ _, _, e => by simp [M.pyO] at e
  | _, _, _, _, .insF _ _ _ _ _ _, _, e => by simp [M.pyO] at e
  | _, _, _, _, .scr _ _, _, e => by simp [M.pyO] at e
theorem RMs.py (f : ∀ a, F a → F' a) : ∀ {ms : List M} {ds : List D} {vs : List V} {fp : List Addr}, RMs W F H ms vs fp → (∀ a ∈ fp, F' a) → M.pys ms = some ds → RDs W.K F' H ds vs
  | _, ds, _, _, .nil, _, e => by simp [M.pys] at e; subst e; exact .nil
  | m :: ms, ds, _, _, .cons r t, g, e => by
    simp only [M.pys] at e
    split at e
    · rename_i d ds' e1 e2
      cases e
      exact .cons (RM.py f r (fun a ha => g a (List.mem_append_left _ ha)) e1) (RMs.py f t (fun a ha => g a (List.mem_append_right _ ha)) e2)
    · cases e
end
mutual
theorem RM.fzR (f : ∀ a, F a → F' a) : ∀ {m n : M} {v : V} {fp : List Addr}, RM W F H m v fp → (∀ a ∈ fp, F' a) → m.fzO = some n → RM W F' H n v [] ∧ n.isFz = true
  | _, _, _, _, .dat r, _, e => by simp [M.fzO] at e; subst e; exact ⟨.dat (r.keep f fun _ _ _ h => h), rfl⟩
  | _, _, _, _, .sl h ln r, g, e => by simp [M.fzO] at e; subst e; exact ⟨.dat (.list (g _ (by simp)) h ln (r.keep f fun _ _ _ h => h)), rfl⟩
  | .lst ms, _, _, _, .lst h ln r, g, e => by
    simp only [M.fzO, Option.map_eq_some_iff] at e
    obtain ⟨ds, e, rfl⟩ := e
    exact ⟨.dat (.list (g _ (by simp)) h (by rw [pys_len e]; exact ln) (RMs.py f r (fun a ha => g a (List.mem_cons_of_mem _ ha)) e)), rfl⟩
  | .tup ms, _, _, _, .tup q h ln r, g, e => by
    simp only [M.fzO, Option.map_eq_some_iff] at e
    obtain ⟨ds, e, rfl⟩ := e
    exact ⟨.dat (.tuple (.inl ⟨f _ q, h⟩) (by rw [pys_len e]; exact ln) (RMs.py f r g e)), rfl⟩
  | _, _, _, _, .dic h ln r, g, e => by simp [M.fzO] at e; subst e; exact ⟨.dat (.dict (g _ (by simp)) h ln (r.keep f fun _ _ _ h => h)), rfl⟩
  | .ins _ c ks ms, _, _, _, .ins hc h nd r, g, e => by
    simp only [M.fzO, Option.map_eq_some_iff] at e
    obtain ⟨ns, e, rfl⟩ := e
    obtain ⟨q1, q2⟩ := RFs.fzR f r (fun a ha => g a (List.mem_cons_of_mem _ ha)) e
    exact ⟨.insF hc (g _ (by simp)) h nd q2 q1, rfl⟩
  | .ins _ c ks ms, _, _, _, .insF hc q h nd z r, g, e => by
    simp only [M.fzO, Option.map_eq_some_iff] at e
    obtain ⟨ns, e, rfl⟩ := e
    obtain ⟨q1, q2⟩ := RFs.fzR f r (fun a ha => g a (by simp at ha)) e
    exact ⟨.insF hc (f _ q) h nd q2 q1, rfl⟩
  | _, _, _, _, .scr q h, g, e => by simp [M.fzO] at e; subst e; exact ⟨.scr (f _ q) h, rfl⟩
theorem RFs.fzR (f : ∀ a, F a → F' a) : ∀ {ks : List Nat} {ms ns : List M} {fs : List (Str × V)} {fp : List Addr}, RFs W F H ks ms fs fp → (∀ a ∈ fp, F' a) → M.fzs ms = some ns → RFs W F' H ks ns fs [] ∧ ∀ n ∈ ns, n.isFz = true
  | _, _, _, _, _, .nil, _, e => by simp [M.fzs] at e; subst e; exact ⟨.nil, by simp⟩
  | _, m :: ms, _, _, _, .cons r t, g, e => by
    simp only [M.fzs] at e
    split at e
    · rename_i d ds' e1 e2
      cases e
      obtain ⟨a1, a2⟩ := RM.fzR f r (fun a ha => g a (List.mem_append_left _ ha)) e1
      obtain ⟨b1, b2⟩ := RFs.fzR f t (fun a ha => g a (List.mem_append_right _ ha)) e2
      refine ⟨RFs.cons (fp := []) (fq := []) a1 b1, fun n hn => ?_⟩
      rcases List.mem_cons.mp hn with rfl | hn
      · exact a2
      · exact b2 n hn
    · cases e
end
theorem pyW_ex {m : M} {K : D → Prop} (h : pyW m K) : ∃ d, m.pyO = some d ∧ K d := by
  cases m with
  | dat d => exact ⟨d, rfl, h⟩
  | sl ds => exact ⟨_, rfl, h⟩
  | lst ms => obtain ⟨ds, e, h⟩ := h; exact ⟨_, by simp [M.pyO, e], h⟩
  | tup ms => obtain ⟨ds, e, h⟩ := h; exact ⟨_, by simp [M.pyO, e], h⟩
  | dic kvs => exact ⟨_, rfl, h⟩
  | _ => exact h.elim
theorem fzW_ex {m : M} {K : M → Prop} (h : fzW m K) : ∃ n, m.fzO = some n ∧ K n := by
  cases m with
  | dat d => exact ⟨_, rfl, h⟩
  | sl ds => exact ⟨_, rfl, h⟩
  | lst ms => obtain ⟨ds, e, h⟩ := h; exact ⟨_, by simp [M.fzO, e], h⟩
  | tup ms => obtain ⟨ds, e, h⟩ := h; exact ⟨_, by simp [M.fzO, e], h⟩
  | dic kvs => exact ⟨_, rfl, h⟩
  | set ds => exact h.elim
  | ins z c ks ms => obtain ⟨ds, e, h⟩ := h; exact ⟨_, by simp [M.fzO, e], h⟩
  | scr is => exact ⟨_, rfl, h⟩
/-- settled: the top stays own, what is in it is shared -/
theorem settle_ex {m : M} {v : V} {fp : List Addr} {K : M → Prop} (r : RM W F H m v fp) (nd : fp.Nodup) (h : settleW m K) :
    ∃ n fq, K n ∧ (∀ a ∈ fq, a ∈ fp) ∧ fq.Nodup ∧ ∀ F' : Addr → Prop, (∀ a, F a → F' a) → (∀ a ∈ fp, a ∈ fq ∨ F' a) → RM W F' H n v fq := by
  cases r with
  | dat r => exact ⟨_, [], h, by simp, by simp, fun F' f g => .dat (r.keep f fun _ _ _ q => q)⟩
  | sl h1 ln r => exact ⟨_, _, h, fun a ha => ha, nd, fun F' f g => .sl h1 ln (r.keep f fun _ _ _ q => q)⟩
  | @lst a vs ms fp h1 ln r =>
    obtain ⟨ds, e, h⟩ := h
    refine ⟨_, [a], h, by simp, by simp, fun F' f g => ?_⟩
    refine .sl h1 (by rw [pys_len e]; exact ln) (r.py f (fun b hb => (g b (List.mem_cons_of_mem _ hb)).resolve_left fun z => ?_) e)
    have z : b = a := by simpa using z
    subst z
    exact (List.nodup_cons.mp nd).1 hb
  | tup q h1 ln r =>
    obtain ⟨ds, e, h⟩ := h
    exact ⟨_, [], h, by simp, by simp, fun F' f g => .dat (.tuple (.inl ⟨f _ q, h1⟩) (by rw [pys_len e]; exact ln) (r.py f (fun a ha => (g a ha).resolve_left (by simp)) e))⟩
  | dic h1 ln r => exact ⟨_, _, h, fun a ha => ha, nd, fun F' f g => .dic h1 ln (r.keep f fun _ _ _ q => q)⟩
  | ins hc h1 n1 r => exact ⟨_, _, h, fun a ha => ha, nd, fun F' f g => .ins hc h1 n1 (r.keep f (fun _ _ _ q => q) fun _ _ _ q => q)⟩
  | scr q h1 => exact ⟨_, [], h, by simp, by simp, fun F' f g => .scr (f _ q) h1⟩
  | insF hc q h1 n1 z r => exact ⟨_, [], h, by simp, by simp, fun F' f g => .insF hc (f _ q) h1 n1 z (r.keep f (fun _ _ _ q => q) fun _ _ _ q => q)⟩
end

section
variable {W : Wd} {E : List (Addr × Nat × Addr)} {r : Wr}
/-- what an expression has given -/
def RS (W : Wd) (r : Wr) (v : V) (fp : List Addr) : SV → Prop
  | .v m => RM W r.F r.H m v fp
  | .al j p => fp = [] ∧ ∃ m v0 c, r.σ[j]? = some (some (.v m)) ∧ r.w[j]? = some (some v0) ∧ atO p m = some c ∧ WalkV W r.H v0 p v
  | .xr i => fp = [] ∧ r.w[i]? = some (some v) ∧ ((∃ c m, r.σ[i]? = some (some (.exc c m))) ∨ ∃ c, r.σ[i]? = some (some (.exg c)))
  | _ => False
/-- what has come owns nothing that stands elsewhere -/
structure Sep (r : Wr) (fp : List Addr) : Prop where
  nd : (r.A ++ fp).Nodup
  nf : ∀ a ∈ fp, ¬ r.F a
theorem Sep.nil (h : ER W E r) : Sep r [] := ⟨by simpa using h.nd, by simp⟩
theorem Sep.apart {fp : List Addr} (s : Sep r fp) : ∀ a ∈ fp, a ∉ r.A := fun a ha z => (List.nodup_append.mp s.nd).2.2 a z a ha rfl
theorem Sep.ndF {fp : List Addr} (s : Sep r fp) : fp.Nodup := (List.nodup_append.mp s.nd).2.1
/-- the next moment: the slots are σ'; fp0: what had come and is used up; fp: what has come owns -/
structure Nx (W : Wd) (E : List (Addr × Nat × Addr)) (r : Wr) (fp0 : List Addr) (σ' : Env) (r' : Wr) (fp : List Addr) : Prop where
  σ : r'.σ = σ'
  er : ER W E r'
  w : r'.w = r.w
  st : Stp r.F r.H (r.A ++ fp0) r'.F r'.H (r'.A ++ fp)
  sep : Sep r' fp
theorem Nx.here {fp : List Addr} (h : ER W E r) (s : Sep r fp) : Nx W E r fp r.σ r fp := ⟨rfl, h, rfl, Stp.refl, s⟩
theorem Nx.trans {r1 r2 : Wr} {σ1 σ2 : Env} {fp0 fp fq : List Addr} (a : Nx W E r fp0 σ1 r1 fp) (b : Nx W E r1 fp σ2 r2 fq) : Nx W E r fp0 σ2 r2 fq :=
  ⟨b.σ, b.er, b.w.trans a.w, a.st.trans b.st, b.sep⟩
/-- a step from nothing that had come, where something waits -/
theorem Nx.wide {r1 r2 : Wr} {σ2 : Env} {fp fq : List Addr} (s : Sep r1 fp) (th : ∀ a ∈ fp, r1.H a ≠ none) (b : Nx W E r1 [] σ2 r2 fq) : Nx W E r1 fp σ2 r2 (fq ++ fp) := by
  have ap : ∀ a ∈ fp, a ∉ r1.A ++ [] := fun a ha => by simpa using s.apart a ha
  have ap2 : ∀ a ∈ fp, a ∉ r2.A ++ fq := b.st.apart th ap
  refine ⟨b.σ, b.er, b.w, ⟨b.st.f, fun a o e n => b.st.k a o e fun z => n (List.mem_append_left _ (by simpa using z)), fun x hx => ?_, fun x hx => ?_⟩, ⟨?_, fun x hx => ?_⟩⟩
  · rcases List.mem_append.mp hx with hx | hx
    · exact (b.st.a x (List.mem_append_left _ hx)).imp (fun z => List.mem_append_left _ (by simpa using z)) id
    · rcases List.mem_append.mp hx with hx | hx
      · exact (b.st.a x (List.mem_append_right _ hx)).imp (fun z => List.mem_append_left _ (by simpa using z)) id
      · exact .inl (List.mem_append_right _ hx)
  · exact (b.st.g x hx).imp id (Or.imp (fun z => List.mem_append_left _ (by simpa using z)) id)
  · rw [← List.append_assoc]
    exact List.nodup_append.mpr ⟨b.sep.nd, s.ndF, fun x hx y hy z => by subst z; exact ap2 x hy hx⟩
  · rcases List.mem_append.mp hx with hx | hx
    · exact b.sep.nf x hx
    · exact b.st.notF th ap s.nf x hx
theorem Nx.waits {r1 r2 : Wr} {σ2 : Env} {fp fq : List Addr} {m : M} {v : V} (e : ER W E r1) (s : Sep r1 fp) (b : Nx W E r1 [] σ2 r2 fq) (q : RM W r1.F r1.H m v fp) : RM W r2.F r2.H m v fp :=
  b.st.waits q (fun a ha => by simpa using s.apart a ha) (fun a f => by simpa using e.nfA a f) e.df
/-- the content of what has come -/
theorem getW_ex (h : ER W E r) {sv : SV} {v : V} {fp : List Addr} {K : M → Prop} (q : RS W r v fp sv) (s : Sep r fp) (g : getW r.σ sv K) :
    ∃ m fq, K m ∧ RM W r.F r.H m v fq ∧ (∀ a ∈ fq, (a ∈ fp ∨ a ∈ r.A) ∧ ¬ r.F a) ∧ fq.Nodup := by
  cases sv with
  | v m => exact ⟨m, fp, g, q, fun a ha => ⟨.inl ha, s.nf a ha⟩, s.ndF⟩
  | al j p =>
    obtain ⟨_, m, v0, c, e1, e2, e3, w⟩ := q
    obtain ⟨s', e, g⟩ := nthW_ex g
    rw [e1] at e; cases e
    obtain ⟨c', e4, g⟩ := atW_ex g
    rw [e3] at e4; cases e4
    obtain ⟨v1, u, fq, hw, wk, rc, fA, nd, _⟩ := h.put e1 e3
    rw [e2] at hw; cases hw
    cases w.inj wk
    exact ⟨c, fq, g, rc, fun a ha => ⟨.inr (fA a ha), h.nf a (fA a ha)⟩, nd⟩
  | _ => exact g.elim
/-- an alias, or the thing itself where it is shared -/
theorem slotW_ex (h : ER W E r) {i : Nat} {p : List Nat} {m : M} {v : V} {fq : List Addr} {K : SV → Prop} (q : RS W r v [] (.al i p)) (rm : RM W r.F r.H m v fq) (g : slotW i p m K) :
    ∃ sv, K sv ∧ RS W r v [] sv := by
  simp only [slotW] at g
  split at g
  · rename_i e
    have := rm.fz_nil e
    subst this
    exact ⟨_, g, rm⟩
  · exact ⟨_, g, q⟩
theorem normW_ex (h : ER W E r) {i : Nat} {p : List Nat} {v : V} {K : SV → Prop} (q : RS W r v [] (.al i p)) (g : normW r.σ (.al i p) K) : ∃ sv, K sv ∧ RS W r v [] sv := by
  obtain ⟨m, fq, g, rm, _, _⟩ := getW_ex h q (.nil h) g
  exact slotW_ex h q rm g
theorem readW_ex (h : ER W E r) {i : Nat} {K : SV → Prop} (g : readW r.σ i K) : ∃ sv v, K sv ∧ r.w[i]? = some (some v) ∧ RS W r v [] sv := by
  obtain ⟨s, e, g⟩ := nthW_ex g
  obtain ⟨v, fp, hw, hf, q⟩ := h.sl i s e
  cases s with
  | v m =>
    obtain ⟨sv, k, q'⟩ := slotW_ex h (i := i) (p := []) (m := m) (v := v) (fq := fp) ⟨rfl, m, v, m, e, hw, rfl, rfl⟩ q g
    exact ⟨sv, v, k, hw, q'⟩
  | al j p =>
    obtain ⟨_, q⟩ := q
    obtain ⟨sv, k, q'⟩ := normW_ex h (i := j) (p := p) (v := v) ⟨rfl, q⟩ g
    exact ⟨sv, v, k, hw, q'⟩
  | exc c m => exact ⟨.xr i, v, g, hw, rfl, hw, .inl ⟨c, m, e⟩⟩
  | exg c => exact ⟨.xr i, v, g, hw, rfl, hw, .inr ⟨c, e⟩⟩
  | xr j => exact q.elim
end
end QL
end
section
set_option linter.all false
set_option maxRecDepth 100000
set_option maxHeartbeats 1000000
/-! SA6: sharing and storing, as moments. -/
namespace QL
open PySem PySem.Spec PyProof.Rows L2

section
variable {W : Wd} {E : List (Addr × Nat × Addr)} {r : Wr}
/-- what has come is shared from now on -/
theorem ER.shareOut {fp : List Addr} (h : ER W E r) (ap : ∀ a ∈ fp, a ∉ r.A) (th : ∀ a ∈ fp, r.H a ≠ none) : ER W E { r with F := fun a => r.F a ∨ a ∈ fp } := by
  have f : ∀ a, r.F a → r.F a ∨ a ∈ fp := fun _ => .inl
  refine ⟨h.lw, h.lf, fun i s e => ?_, h.nd, fun a ha z => ?_, fun a z => ?_, h.da⟩
  · obtain ⟨v, fq, h1, h2, q⟩ := h.sl i s e
    refine ⟨v, fq, h1, h2, q.keep (r' := { r with F := fun a => r.F a ∨ a ∈ fp }) h f (fun a o _ e => e) (fun a _ o e => e) fun j p hs => ?_⟩
    subst hs
    exact q.2
  · rcases z with z | z
    · exact h.nf a ha z
    · exact ap a z ha
  · rcases z with z | z
    · exact h.df a z
    · exact th a z
theorem frzSW_ex (h : ER W E r) {sv : SV} {v : V} {fp : List Addr} {K : M → Env → Prop} (q : RS W r v fp sv) (s : Sep r fp) (g : frzSW sv r.σ K) :
    ∃ r' f, Nx W E r fp r'.σ r' [] ∧ K f r'.σ ∧ RM W r'.F r'.H f v [] ∧ f.isFz = true ∧ r'.H = r.H := by
  cases sv with
  | v m =>
    obtain ⟨f, e, g⟩ := fzW_ex g
    have th := RM.there q
    have hr := h.shareOut s.apart th
    obtain ⟨rm, hz⟩ := RM.fzR (F' := fun a => r.F a ∨ a ∈ fp) (fun _ => .inl) q (fun _ => .inr) e
    refine ⟨{ r with F := fun a => r.F a ∨ a ∈ fp }, f, ⟨rfl, hr, rfl, ⟨fun _ => .inl, fun _ _ e _ => e, fun a ha => .inl ?_, fun a z => ?_⟩, .nil hr⟩, g, rm, hz, rfl⟩
    · have : a ∈ r.A := by simpa using ha
      exact List.mem_append_left _ this
    · rcases z with z | z
      · exact .inl z
      · exact .inr (.inl (List.mem_append_right _ z))
  | al j p =>
    obtain ⟨rfl, m, v0, c, e1, e2, e3, w⟩ := q
    obtain ⟨s', e, g⟩ := nthW_ex g
    rw [e1] at e; cases e
    obtain ⟨c', e4, g⟩ := atW_ex g
    rw [e3] at e4; cases e4
    obtain ⟨f, ef, g⟩ := fzW_ex g
    obtain ⟨s', e, g⟩ := nthW_ex g
    rw [e1] at e; cases e
    obtain ⟨m', es, g⟩ := setAtW_ex g
    obtain ⟨_, g⟩ := setW_ex g
    have g := mapW_eq g
    obtain ⟨v1, u, fq, hw, wk, rc, fA, nd, put⟩ := h.put e1 e3
    rw [e2] at hw; cases hw
    cases w.inj wk
    obtain ⟨rm, hz⟩ := RM.fzR (F' := fun a => r.F a ∨ a ∈ fq) (fun _ => .inl) rc (fun _ => .inr) ef
    obtain ⟨fps', hr, st, _, _⟩ := put (fun a => r.F a ∨ a ∈ fq) r.H f m' [] [] [] (clrU j p) (fun _ => .inl) (fun _ _ e _ => e) (fun a z => z.elim .inl fun z => .inr (.inl z))
      (fun a z => z.elim (h.df a) fun z => h.da a (fA a z)) rm es (by simp) (by simp) (.inr ⟨rfl, fun _ _ e => e⟩)
    exact ⟨⟨fun a => r.F a ∨ a ∈ fq, r.H, (r.σ.set j (some (.v m'))).map (clrU j p), r.w, fps'⟩, f, ⟨rfl, hr, rfl, st.more (by simp), .nil hr⟩, g, rm, hz, rfl⟩
  | _ => exact g.elim
theorem putW_ex (h : ER W E r) {dp : Bool} {sv : SV} {v : V} {fp : List Addr} {K : M → Env → Prop} (q : RS W r v fp sv) (s : Sep r fp) (g : putW dp sv r.σ K) :
    ∃ r' f fq, Nx W E r fp r'.σ r' fq ∧ K f r'.σ ∧ RM W r'.F r'.H f v fq ∧ r'.H = r.H := by
  cases sv with
  | v m =>
    simp only [putW] at g
    split at g
    · exact ⟨r, m, fp, .here h s, g, q, rfl⟩
    · obtain ⟨r', f, n, k, rm, _, eH⟩ := frzSW_ex h (sv := .v m) q s g
      exact ⟨r', f, [], n, k, rm, eH⟩
  | al j p =>
    obtain ⟨r', f, n, k, rm, _, eH⟩ := frzSW_ex h (sv := .al j p) q s g
    exact ⟨r', f, [], n, k, rm, eH⟩
  | _ => exact g.elim
theorem settleSW_ex (h : ER W E r) {sv : SV} {v : V} {fp : List Addr} {K : M → Env → Prop} (q : RS W r v fp sv) (s : Sep r fp) (g : settleSW sv r.σ K) :
    ∃ r' n fq fn, Nx W E r fp r'.σ r' fq ∧ K n r'.σ ∧ RM W r'.F r'.H n v fn ∧ (∀ a ∈ fn, a ∈ r'.A ++ fq) ∧ (∀ a ∈ fq, a ∈ fn) ∧ r'.H = r.H := by
  cases sv with
  | v m =>
    obtain ⟨n, fq, k, sub, nd, rm⟩ := settle_ex q s.ndF g
    have th := RM.there q
    -- what is dropped is shared
    have ap : ∀ a ∈ fp.filter (fun a => decide (a ∉ fq)), a ∉ r.A := fun a ha => s.apart a (List.mem_filter.mp ha).1
    have hr := h.shareOut ap fun a ha => th a (List.mem_filter.mp ha).1
    refine ⟨{ r with F := fun a => r.F a ∨ a ∈ fp.filter (fun a => decide (a ∉ fq)) }, n, fq, fq, ⟨rfl, hr, rfl, ⟨fun _ => .inl, fun _ _ e _ => e, fun a ha => .inl ?_, fun a z => ?_⟩, ⟨?_, fun a ha z => ?_⟩⟩, k, rm _ (fun _ => .inl) (fun a ha => ?_), fun a ha => List.mem_append_right _ ha, fun _ z => z, rfl⟩
    · rcases List.mem_append.mp ha with z | z
      · exact List.mem_append_left _ z
      · exact List.mem_append_right _ (sub a z)
    · rcases z with z | z
      · exact .inl z
      · exact .inr (.inl (List.mem_append_right _ (List.mem_filter.mp z).1))
    · exact List.nodup_append.mpr ⟨h.nd, nd, fun a ha b hb z => by subst z; exact s.apart a (sub a hb) ha⟩
    · rcases z with z | z
      · exact s.nf a (sub a ha) z
      · exact (of_decide_eq_true (List.mem_filter.mp z).2) ha
    · by_cases z : a ∈ fq
      · exact .inl z
      · exact .inr (.inr (List.mem_filter.mpr ⟨ha, decide_eq_true z⟩))
  | al j p =>
    obtain ⟨rfl, m, v0, c, e1, e2, e3, w⟩ := q
    obtain ⟨s', e, g⟩ := nthW_ex g
    rw [e1] at e; cases e
    obtain ⟨c', e4, g⟩ := atW_ex g
    rw [e3] at e4; cases e4
    obtain ⟨v1, u, fq, hw, wk, rc, fA, nd, put⟩ := h.put e1 e3
    rw [e2] at hw; cases hw
    cases w.inj wk
    split at g
    · obtain ⟨n, fn, k, sub, ndn, rm⟩ := settle_ex rc nd g
      obtain ⟨s', e, k⟩ := nthW_ex k
      rw [e1] at e; cases e
      obtain ⟨m', es, k⟩ := setAtW_ex k
      obtain ⟨_, k⟩ := setW_ex k
      have k := mapW_eq k
      have rm' := rm (fun a => r.F a ∨ (a ∈ fq ∧ a ∉ fn)) (fun _ => .inl) (fun a ha => by
        by_cases z : a ∈ fn
        · exact .inl z
        · exact .inr (.inr ⟨ha, z⟩))
      obtain ⟨fps', hr, st, nd', inA⟩ := put (fun a => r.F a ∨ (a ∈ fq ∧ a ∉ fn)) r.H n m' fn [] [] (clrU j p) (fun _ => .inl) (fun _ _ e _ => e) (fun a z => z.elim .inl fun z => .inr (.inl z.1))
        (fun a z => z.elim (h.df a) fun z => h.da a (fA a z.1)) rm' es (by simpa using ndn)
        (fun a ha => by
          have ha : a ∈ fn := by simpa using ha
          exact ⟨.inl (sub a ha), fun z => z.elim (h.nf a (fA a (sub a ha))) fun z => z.2 ha, h.da a (fA a (sub a ha))⟩) (.inr ⟨rfl, fun _ _ e => e⟩)
      exact ⟨⟨fun a => r.F a ∨ (a ∈ fq ∧ a ∉ fn), r.H, (r.σ.set j (some (.v m'))).map (clrU j p), r.w, fps'⟩, n, [], fn, ⟨rfl, hr, rfl, st.more (by simp), .nil hr⟩, k, rm', fun a ha => List.mem_append_left _ (inA a ha), fun _ z => absurd z (by simp), rfl⟩
    · exact ⟨r, c, [], fq, .here h s, g, rc, fun a ha => List.mem_append_left _ (fA a ha), fun _ z => absurd z (by simp), rfl⟩
  | _ => exact g.elim
end
end QL
end
section
set_option linter.all false
set_option maxRecDepth 100000
set_option maxHeartbeats 1000000
/-! SA7: a slot stored anew; slots added and taken away. -/
namespace QL
open PySem PySem.Spec PyProof.Rows L2

section
variable {W : Wd} {E : List (Addr × Nat × Addr)} {r : Wr}
theorem ER.slot (h : ER W E r) {i : Nat} (hi : i < r.σ.length) (x : Option SV) (y : Option V) (fp fp0 : List Addr) (hf : r.fps[i]? = some fp0) (nd : fp.Nodup) (ap : ∀ a ∈ fp, a ∈ fp0 ∨ a ∉ r.A) (nf : ∀ a ∈ fp, ¬ r.F a) (da : ∀ a ∈ fp, r.H a ≠ none)
    (hx : ∀ s, x = some s → ∃ v, y = some v ∧ SlotR W E ⟨r.F, r.H, (r.σ.map (clr i)).set i x, r.w.set i y, r.fps.set i fp⟩ v fp s) :
    ER W E ⟨r.F, r.H, (r.σ.map (clr i)).set i x, r.w.set i y, r.fps.set i fp⟩ ∧ ∀ a ∈ (r.fps.set i fp).flatten, a ∈ r.A ∨ a ∈ fp := by
  obtain ⟨oth, pA, pS⟩ := flat_set hf
  have ndA := (List.Perm.nodup_iff pA).mp h.nd
  have nd3 := List.nodup_append.mp ndA
  have oA : ∀ a ∈ oth, a ∈ r.A := fun a ha => pA.mem_iff.mpr (List.mem_append_left _ ha)
  have sub : ∀ a ∈ (r.fps.set i fp).flatten, a ∈ r.A ∨ a ∈ fp := fun a ha => by
    rcases List.mem_append.mp ((pS fp).mem_iff.mp ha) with z | z
    · exact .inl (oA a z)
    · exact .inr z
  refine ⟨⟨by simp [h.lw], by simp [h.lf], fun j s q => ?_, ?_, fun a ha => ?_, h.df, fun a ha => ?_⟩, sub⟩
  · by_cases hj : j = i
    · subst hj
      have q : ((r.σ.map (clr j)).set j x)[j]? = some (some s) := q
      rw [List.getElem?_set_self (by simpa using hi)] at q
      have hxs : x = some s := by cases q; rfl
      obtain ⟨v, hy, hs⟩ := hx s hxs
      refine ⟨v, fp, ?_, ?_, hs⟩
      · show (r.w.set j y)[j]? = _
        rw [List.getElem?_set_self (by rw [h.lw]; exact hi), hy]
      · show (r.fps.set j fp)[j]? = _
        rw [List.getElem?_set_self (by rw [h.lf]; exact hi)]
    · have q : ((r.σ.map (clr i)).set i x)[j]? = some (some s) := q
      rw [List.getElem?_set_ne (Ne.symm hj), List.getElem?_map, Option.map_eq_some_iff] at q
      obtain ⟨s', q1, q2⟩ := q
      obtain ⟨rfl, q3⟩ := clr_some q2
      obtain ⟨v, fq, h1, h2, qs⟩ := h.sl j s q1
      refine ⟨v, fq, ?_, ?_, qs.keep h (fun _ z => z) (fun _ _ _ e => e) (fun _ _ _ e => e) fun j0 p0 hs => ?_⟩
      · show (r.w.set i y)[j]? = _
        rw [List.getElem?_set_ne (Ne.symm hj)]; exact h1
      · show (r.fps.set i fp)[j]? = _
        rw [List.getElem?_set_ne (Ne.symm hj)]; exact h2
      · subst hs
        have hne := q3 _ _ rfl
        obtain ⟨_, m, v0, c, e1, e2, e3, w⟩ := qs
        refine ⟨m, v0, c, ?_, ?_, e3, w⟩
        · show ((r.σ.map (clr i)).set i x)[j0]? = _
          rw [List.getElem?_set_ne (Ne.symm hne), List.getElem?_map, e1]; rfl
        · show (r.w.set i y)[j0]? = _
          rw [List.getElem?_set_ne (Ne.symm hne)]; exact e2
  · refine (List.Perm.nodup_iff (pS fp)).mpr (List.nodup_append.mpr ⟨nd3.1, nd, fun a ha b hb z => ?_⟩)
    subst z
    rcases ap a hb with z | z
    · exact nd3.2.2 a ha a z rfl
    · exact z (oA a ha)
  · rcases sub a ha with z | z
    · exact h.nf a z
    · exact nf a z
  · rcases sub a ha with z | z
    · exact h.da a z
    · exact da a z
theorem ER.fpAt (h : ER W E r) {i : Nat} (hi : i < r.σ.length) : ∃ fp0, r.fps[i]? = some fp0 :=
  ⟨r.fps[i]'(by rw [h.lf]; exact hi), List.getElem?_eq_getElem _⟩
/-- a next moment whose slots are other ones -/
structure Nw (W : Wd) (E : List (Addr × Nat × Addr)) (r : Wr) (fp0 : List Addr) (w' : List (Option V)) (r' : Wr) : Prop where
  er : ER W E r'
  w : r'.w = w'
  st : Stp r.F r.H (r.A ++ fp0) r'.F r'.H r'.A
theorem Nx.thenW {r1 r2 : Wr} {σ1 : Env} {fp0 fp : List Addr} {w' : List (Option V)} (a : Nx W E r fp0 σ1 r1 fp) (b : Nw W E r1 fp w' r2) : Nw W E r fp0 w' r2 := ⟨b.er, b.w, a.st.trans b.st⟩
theorem Stp.nil0 {F F' : Addr → Prop} {H H' : Hp} {A B : List Addr} (s : Stp F H (A ++ []) F' H' B) : Stp F H A F' H' B := by rw [List.append_nil] at s; exact s
theorem Nw.thenW {r1 r2 : Wr} {fp0 : List Addr} {w' w2 : List (Option V)} (a : Nw W E r fp0 w' r1) (b : Nw W E r1 [] w2 r2) : Nw W E r fp0 w2 r2 := ⟨b.er, b.w, a.st.trans b.st.nil0⟩
theorem Nw.thenX {r1 r2 : Wr} {σ2 : Env} {fp0 fp : List Addr} {w' : List (Option V)} (a : Nw W E r fp0 w' r1) (b : Nx W E r1 [] σ2 r2 fp) (hw : w' = r.w) : Nx W E r fp0 σ2 r2 fp :=
  ⟨b.σ, b.er, b.w.trans (a.w.trans hw), a.st.trans b.st.nil0, b.sep⟩
theorem assignW_ex (h : ER W E r) {i : Nat} {sv : SV} {v : V} {fp : List Addr} {K : Env → Prop} (q : RS W r v fp sv) (s : Sep r fp) (g : assignW i sv r.σ K) :
    i < r.σ.length ∧ ∃ r', Nw W E r fp (r.w.set i (some v)) r' ∧ K r'.σ ∧ r'.H = r.H ∧ r'.F = r.F := by
  cases sv with
  | v m =>
    obtain ⟨hi, g⟩ := setW_ex (mapW_eq g)
    have hi : i < r.σ.length := by simpa using hi
    obtain ⟨fp0, hf⟩ := h.fpAt hi
    obtain ⟨er, sub⟩ := h.slot hi (some (.v m)) (some v) fp fp0 hf s.ndF (fun a ha => .inr (s.apart a ha)) s.nf (RM.there q) fun s' e => by cases e; exact ⟨v, rfl, q⟩
    exact ⟨hi, _, ⟨er, rfl, ⟨fun _ z => z, fun _ _ e _ => e, fun a ha => .inl (List.mem_append.mpr (sub a ha)), fun _ z => .inl z⟩⟩, g, rfl, rfl⟩
  | al j p =>
    obtain ⟨rfl, m, v0, c, e1, e2, e3, w⟩ := q
    simp only [assignW] at g
    split at g
    · rename_i eb
      have ej := Nat.eq_of_beq_eq_true eb
      subst ej
      obtain ⟨s', e, g⟩ := nthW_ex g
      rw [e1] at e; cases e
      obtain ⟨c', e4, g⟩ := atW_ex g
      rw [e3] at e4; cases e4
      obtain ⟨hi, g⟩ := setW_ex (mapW_eq g)
      have hi : j < r.σ.length := by simpa using hi
      obtain ⟨v1, fp0, hw0, hf, rm0⟩ := h.slV e1
      rw [e2] at hw0; cases hw0
      obtain ⟨u, fq, rest, wk, rc, pm, _⟩ := rm0.path e3
      cases w.inj wk
      have nd0 : fp0.Nodup := by
        obtain ⟨oth, pA, _⟩ := flat_set hf
        exact (List.nodup_append.mp ((List.Perm.nodup_iff pA).mp h.nd)).2.1
      have fq0 : ∀ a ∈ fq, a ∈ fp0 := fun a ha => pm.mem_iff.mpr (List.mem_append_right _ ha)
      obtain ⟨er, sub⟩ := h.slot hi (some (.v c)) (some v) fq fp0 hf (List.nodup_append.mp ((List.Perm.nodup_iff pm).mp nd0)).2.1 (fun a ha => .inl (fq0 a ha)) (fun a ha => h.nf a (mem_flat hf (fq0 a ha))) rc.there fun s' e => by cases e; exact ⟨v, rfl, rc⟩
      refine ⟨hi, _, ⟨er, rfl, ⟨fun _ z => z, fun _ _ e _ => e, fun a ha => .inl ?_, fun _ z => .inl z⟩⟩, g, rfl, rfl⟩
      rcases sub a ha with z | z
      · exact List.mem_append_left _ z
      · exact List.mem_append_left _ (mem_flat hf (fq0 a z))
    · rename_i eb
      obtain ⟨hi, g⟩ := setW_ex (mapW_eq g)
      have hi : i < r.σ.length := by simpa using hi
      have hne : j ≠ i := fun z => by subst z; rw [beq_self] at eb; cases eb
      obtain ⟨fp0, hf⟩ := h.fpAt hi
      obtain ⟨er, sub⟩ := h.slot hi (some (.al j p)) (some v) [] fp0 hf (by simp) (by simp) (by simp) (by simp) fun s' e => by
        cases e
        refine ⟨v, rfl, rfl, m, v0, c, ?_, ?_, e3, w⟩
        · show ((r.σ.map (clr i)).set i _)[j]? = _
          rw [List.getElem?_set_ne (Ne.symm hne), List.getElem?_map, e1]; rfl
        · show (r.w.set i _)[j]? = _
          rw [List.getElem?_set_ne (Ne.symm hne)]; exact e2
      exact ⟨hi, _, ⟨er, rfl, ⟨fun _ z => z, fun _ _ e _ => e, fun a ha => .inl (by rcases sub a ha with z | z; exact List.mem_append_left _ z; simp at z), fun _ z => .inl z⟩⟩, g, rfl, rfl⟩
  | _ => exact g.elim
/-- a slot is forgotten -/
theorem clearW_ex (h : ER W E r) {i : Nat} {K : Env → Prop} (y : Option V) (g : mapW (clr i) r.σ fun σ1 => setW none i σ1 K) :
    i < r.σ.length ∧ ∃ r', Nw W E r [] (r.w.set i y) r' ∧ K r'.σ ∧ r'.H = r.H ∧ r'.F = r.F := by
  obtain ⟨hi, g⟩ := setW_ex (mapW_eq g)
  have hi : i < r.σ.length := by simpa using hi
  obtain ⟨fp0, hf⟩ := h.fpAt hi
  obtain ⟨er, sub⟩ := h.slot hi none y [] fp0 hf (by simp) (by simp) (by simp) (by simp) fun s' e => by cases e
  exact ⟨hi, _, ⟨er, rfl, ⟨fun _ z => z, fun _ _ e _ => e, fun a ha => .inl (by rcases sub a ha with z | z; exact List.mem_append_left _ z; simp at z), fun _ z => .inl z⟩⟩, g, rfl, rfl⟩

/-! ### a slot more at the end -/
theorem ER.push (h : ER W E r) {sv : SV} {v : V} {fp : List Addr} (q : RS W r v fp sv) (s : Sep r fp) (hx : ∀ i, sv ≠ .xr i) : ER W E ⟨r.F, r.H, r.σ ++ [some sv], r.w ++ [some v], r.fps ++ [fp]⟩ := by
  have up : ∀ {j : Nat} {m : M} {v0 : V}, r.σ[j]? = some (some (.v m)) → r.w[j]? = some (some v0) → (r.σ ++ [some sv])[j]? = some (some (.v m)) ∧ (r.w ++ [some v])[j]? = some (some v0) := fun {j m v0} e1 e2 => by
    have h1 := (List.getElem?_eq_some_iff.mp e1).1
    have h2 := (List.getElem?_eq_some_iff.mp e2).1
    exact ⟨by rw [List.getElem?_append_left h1]; exact e1, by rw [List.getElem?_append_left h2]; exact e2⟩
  refine ⟨by simp [h.lw], by simp [h.lf], fun i s' e => ?_, (by show ((r.fps ++ [fp]).flatten).Nodup; rw [List.flatten_append]; simpa using s.nd), fun a ha => ?_, h.df, fun a ha => ?_⟩
  · have e : (r.σ ++ [some sv])[i]? = some (some s') := e
    by_cases hi : i < r.σ.length
    · rw [List.getElem?_append_left hi] at e
      obtain ⟨v', fq, h1, h2, qs⟩ := h.sl i s' e
      refine ⟨v', fq, ?_, ?_, qs.keep h (fun _ z => z) (fun _ _ _ e => e) (fun _ _ _ e => e) fun j p hs => ?_⟩
      · show (r.w ++ [some v])[i]? = _
        rw [List.getElem?_append_left (by rw [h.lw]; exact hi)]; exact h1
      · show (r.fps ++ [fp])[i]? = _
        rw [List.getElem?_append_left (by rw [h.lf]; exact hi)]; exact h2
      · subst hs
        obtain ⟨_, m, v0, c, e1, e2, e3, w⟩ := qs
        obtain ⟨u1, u2⟩ := up e1 e2
        exact ⟨m, v0, c, u1, u2, e3, w⟩
    · have hi' : i = r.σ.length := by
        have := (List.getElem?_eq_some_iff.mp e).1
        simp at this; omega
      subst hi'
      simp at e
      subst e
      refine ⟨v, fp, ?_, ?_, ?_⟩
      · show (r.w ++ [some v])[r.σ.length]? = _
        rw [← h.lw]; simp
      · show (r.fps ++ [fp])[r.σ.length]? = _
        rw [← h.lf]; simp
      · cases sv with
        | v m => exact q
        | al j p =>
          obtain ⟨e0, m, v0, c, e1, e2, e3, w⟩ := q
          obtain ⟨u1, u2⟩ := up e1 e2
          exact ⟨e0, m, v0, c, u1, u2, e3, w⟩
        | exc c m => exact q.elim
        | exg c => exact q.elim
        | xr j => exact absurd rfl (hx j)
  · have ha : a ∈ r.A ++ fp := by simpa using ha
    rcases List.mem_append.mp ha with z | z
    · exact h.nf a z
    · exact s.nf a z
  · have ha : a ∈ r.A ++ fp := by simpa using ha
    rcases List.mem_append.mp ha with z | z
    · exact h.da a z
    · cases sv with
      | v m => exact RM.there q a z
      | al j p => obtain ⟨rfl, _⟩ := q; simp at z
      | exc c m => exact q.elim
      | exg c => exact q.elim
      | xr j => exact absurd rfl (hx j)
/-- the last slot is taken away: what it held has come, unless it was forgotten -/
theorem ER.pop {F : Addr → Prop} {H : Hp} {σ : Env} {x : Option SV} {w : List (Option V)} {y : Option V} {fps : List (List Addr)} (h : ER W E ⟨F, H, σ ++ [x], w ++ [y], fps⟩) (hx : ∀ m, x ≠ some (.v m)) :
    ∃ fps' fp, fps = fps' ++ [fp] ∧ ER W E ⟨F, H, σ, w, fps'⟩ := by
  have lf : fps.length = σ.length + 1 := by simpa using h.lf
  have hne : fps ≠ [] := by intro z; subst z; simp at lf
  refine ⟨fps.dropLast, fps.getLast hne, (List.dropLast_concat_getLast hne).symm, ?_⟩
  have ef : fps = fps.dropLast ++ [fps.getLast hne] := (List.dropLast_concat_getLast hne).symm
  have sub : ∀ a ∈ fps.dropLast.flatten, a ∈ fps.flatten := fun a ha => by
    rw [ef]; simp only [List.flatten_append]; exact List.mem_append_left _ ha
  refine ⟨by simpa using h.lw, by simp [lf], fun i s e => ?_, ?_, fun a ha => h.nf a (sub a ha), h.df, fun a ha => h.da a (sub a ha)⟩
  · have e : σ[i]? = some (some s) := e
    have hi := (List.getElem?_eq_some_iff.mp e).1
    obtain ⟨v, fp, h1, h2, q⟩ := h.sl i s (by show (σ ++ [x])[i]? = _; rw [List.getElem?_append_left hi]; exact e)
    have lw : w.length = σ.length := by simpa using h.lw
    refine ⟨v, fp, ?_, ?_, q.keep h (fun _ z => z) (fun _ _ _ e => e) (fun _ _ _ e => e) fun j p hs => ?_⟩
    · have h1 : (w ++ [y])[i]? = some (some v) := h1
      rw [List.getElem?_append_left (by omega)] at h1; exact h1
    · have h2 : fps[i]? = some fp := h2
      rw [ef, List.getElem?_append_left (by simp; omega)] at h2; exact h2
    · subst hs
      obtain ⟨_, m, v0, c, e1, e2, e3, wk⟩ := q
      have e1 : (σ ++ [x])[j]? = some (some (.v m)) := e1
      have e2 : (w ++ [y])[j]? = some (some v0) := e2
      by_cases hj : j < σ.length
      · rw [List.getElem?_append_left hj] at e1
        rw [List.getElem?_append_left (by omega)] at e2
        exact ⟨m, v0, c, e1, e2, e3, wk⟩
      · have hj' : j = σ.length := by
          have := (List.getElem?_eq_some_iff.mp e1).1
          simp at this; omega
        subst hj'
        simp at e1
        exact absurd e1 (hx m)
  · have : (fps.dropLast ++ [fps.getLast hne]).flatten.Nodup := by rw [← ef]; exact h.nd
    simp only [List.flatten_append] at this
    exact (List.nodup_append.mp this).1
end
end QL
end
section
set_option linter.all false
set_option maxRecDepth 100000
set_option maxHeartbeats 1000000
/-! SB1: what an expression's run promises its reading; waiting operands. -/
namespace QL
open PySem PySem.Spec PyProof.Rows L2

/-- the hand layer's slots hold what the moment says -/
def Pre (σV : L2.St) (w : List (Option V)) : Prop := σV.length ≤ w.length ∧ ∀ (i : Nat) (v : V), i < σV.length → w[i]? = some (some v) → σV[i]? = some (some v)
theorem Pre.push {σV : L2.St} {w : List (Option V)} {y : Option V} (p : Pre σV w) : Pre σV (w ++ [y]) := by
  refine ⟨by have := p.1; simp; omega, fun i v hi e => p.2 i v hi ?_⟩
  rw [List.getElem?_append_left (by have := p.1; omega)] at e
  exact e
/-- what is wanted of an exception of the class c with the value m, from the moment r -/
def XEp (W : Wd) (E : List (Addr × Nat × Addr)) (Wx : WX) (r : Wr) (σV : L2.St) (c : Nat) (m : M) (σ' : Env) : Prop :=
  ∀ (r' : Wr) (fp : List Addr) (d : Addr) (pv : V), Nx W E r [] σ' r' fp → r'.F d → r'.H d = some (.xd [(W.fld f_value, pv)]) → RM W r'.F r'.H m pv fp → ∀ C, W.cls c = some C → Wx (.ref C) (some d) σV r'.H
section
variable (Γ : Ctx) (dp : Bool) (W : Wd) (E : List (Addr × Nat × Addr)) (Wx : WX)
/-- a run f (of an expression ..) from a moment at σV, H; R: what is then wanted of what comes -/
def Runs {β : Type} (f : XP → Env → (β → Env → Prop) → Prop) (σV : L2.St) (r : Wr) (R : β → Wr → Prop) : Prop :=
  ∃ (X : XP) (K : β → Env → Prop), f X r.σ K ∧ (∀ c m σ', X c m σ' → XEp W E Wx r σV c m σ') ∧ ∀ b σ', K b σ' → ∀ r' : Wr, r'.σ = σ' → R b r'
def tE (e : QL.E) : TE := fun σV H Q => ∃ r : Wr, r.H = H ∧ ER W E r ∧ Pre σV r.w ∧ Runs W E Wx (evE Γ dp e) σV r fun sv r' => ∀ v fp, Nx W E r [] r'.σ r' fp → RS W r' v fp sv → Q v r'.H
end
section
variable {Γ : Ctx} {dp : Bool} {W : Wd} {E : List (Addr × Nat × Addr)} {Wx : WX} {r r1 : Wr} {σV : L2.St}
/-- an exception in a later part of a run -/
theorem XEp.later {σ1 : Env} {fp : List Addr} {c : Nat} {m : M} {σ' : Env} (n : Nx W E r [] σ1 r1 fp) (th : ∀ a ∈ fp, r1.H a ≠ none) (h : XEp W E Wx r σV c m σ') : XEp W E Wx r1 σV c m σ' := by
  intro r' fq d pv n' hd hh rm C hC
  have nw := Nx.wide n.sep th n'
  have n2 := n.trans nw
  have sub : ∀ a ∈ r'.A ++ fq, a ∈ r'.A ++ (fq ++ fp) := fun a ha => by
    rcases List.mem_append.mp ha with z | z
    · exact List.mem_append_left _ z
    · exact List.mem_append_right _ (List.mem_append_left _ z)
  exact h r' fq d pv ⟨n2.σ, n2.er, n2.w, n2.st.sub sub, n'.sep⟩ hd hh rm C hC
theorem RS.there {sv : SV} {v : V} {fp : List Addr} (q : RS W r v fp sv) : ∀ a ∈ fp, r.H a ≠ none := by
  cases sv with
  | v m => exact RM.there q
  | al j p => obtain ⟨rfl, _⟩ := q; simp
  | xr i => obtain ⟨rfl, _⟩ := q; simp
  | _ => exact q.elim
theorem Sep.left {fp fq : List Addr} (s : Sep r (fp ++ fq)) : Sep r fp := ⟨by
  have := s.nd
  rw [← List.append_assoc] at this
  exact (List.nodup_append.mp this).1, fun a ha => s.nf a (List.mem_append_left _ ha)⟩
theorem Sep.right {fp fq : List Addr} (s : Sep r (fp ++ fq)) : Sep r fq := ⟨by
  have h := s.nd
  have h1 := List.nodup_append.mp h
  have h2 := List.nodup_append.mp h1.2.1
  exact List.nodup_append.mpr ⟨h1.1, h2.2.1, fun a ha b hb => h1.2.2 a ha b (List.mem_append_right _ hb)⟩, fun a ha => s.nf a (List.mem_append_right _ ha)⟩
theorem Sep.swap {fp fq : List Addr} (s : Sep r (fp ++ fq)) : Sep r (fq ++ fp) := ⟨(List.Perm.nodup_iff (List.Perm.append_left _ List.perm_append_comm)).mp s.nd, fun a ha => s.nf a (List.mem_append.mpr ((List.mem_append.mp ha).symm))⟩
theorem Stp.same {F F' : Addr → Prop} {H H' : Hp} {A A' B : List Addr} (s : Stp F H A F' H' A') (e : ∀ a, a ∈ B → a ∈ A') : Stp F H A F' H' B := s.sub e
/-- the moment with the waiting alias at its end, taken away again -/
theorem pop_back {i : Nat} {p : List Nat} {v : V} {σ' : Env} {r' : Wr} {fp : List Addr} (h : ER W E r) (n : Nx W E ⟨r.F, r.H, r.σ ++ [some (.al i p)], r.w ++ [some v], r.fps ++ [[]]⟩ [] σ' r' fp) {s : Option SV} {σ3 : Env} (e : σ' = σ3 ++ [s]) (hs : ∀ m, s ≠ some (.v m)) :
    ∃ r3 : Wr, r3.F = r'.F ∧ r3.H = r'.H ∧ Nx W E r [] σ3 r3 fp ∧ (∀ j q, s = some (.al j q) → RS W r3 v [] (.al j q)) ∧ ∀ j q, s = some (.al j q) → ∀ sv v2 fp2, RS W r' v2 fp2 sv → RS W r3 v2 fp2 sv := by
  obtain ⟨F', H', σ4, w4, fps4⟩ := r'
  have e1 : σ4 = σ' := n.σ
  subst e1
  subst e
  have e2 : w4 = r.w ++ [some v] := n.w
  subst e2
  obtain ⟨fps', fp', ef, er⟩ := n.er.pop hs
  subst ef
  have lf : (fps' ++ [fp']).length = (σ3 ++ [s]).length := n.er.lf
  have sub : ∀ a ∈ fps'.flatten, a ∈ (fps' ++ [fp']).flatten := fun a ha => by simp only [List.flatten_append]; exact List.mem_append_left _ ha
  have fA : (r.fps ++ [[]]).flatten = r.A := by simp
  have lw : r.w.length = σ3.length := by have := er.lw; simpa using this
  refine ⟨⟨F', H', σ3, r.w, fps'⟩, rfl, rfl, ⟨rfl, er, rfl, ⟨n.st.f, fun a o e q => n.st.k a o e ?_, fun a ha => ?_, fun a z => ?_⟩, ⟨?_, n.sep.nf⟩⟩, fun j q hq => ?_, fun j0 q0 hq sv v2 fp2 q => ?_⟩
  · show a ∉ (r.fps ++ [[]]).flatten ++ []
    rw [fA]; exact q
  · have := n.st.a a (by
      rcases List.mem_append.mp ha with z | z
      · exact List.mem_append_left _ (sub a z)
      · exact List.mem_append_right _ z)
    have this : a ∈ (r.fps ++ [[]]).flatten ++ [] ∨ r.H a = none := this
    rw [fA] at this; exact this
  · have := n.st.g a z
    have this : r.F a ∨ a ∈ (r.fps ++ [[]]).flatten ++ [] ∨ r.H a = none := this
    rw [fA] at this; exact this
  · have nd : ((fps' ++ [fp']).flatten ++ fp).Nodup := n.sep.nd
    have h1 := List.nodup_append.mp nd
    have h2 : (fps'.flatten ++ ([fp'] : List (List Addr)).flatten).Nodup := by
      have := h1.1
      simp only [List.flatten_append] at this
      exact this
    exact List.nodup_append.mpr ⟨(List.nodup_append.mp h2).1, h1.2.1, fun a ha b hb => h1.2.2 a (sub a ha) b hb⟩
  · subst hq
    have q1 := n.er.sl σ3.length (.al j q) (by show (σ3 ++ [some (.al j q)])[σ3.length]? = _; simp)
    obtain ⟨v', fq, h1, h2, qs⟩ := q1
    have h1 : (r.w ++ [some v])[σ3.length]? = some (some v') := h1
    rw [← lw] at h1
    simp at h1
    subst h1
    obtain ⟨_, m, v0, c, e1, e2, e3, wk⟩ := qs
    have e1 : (σ3 ++ [some (SV.al j q)])[j]? = some (some (.v m)) := e1
    have e2 : (r.w ++ [some v])[j]? = some (some v0) := e2
    have hj : j < σ3.length := by
      by_cases hj : j < σ3.length
      · exact hj
      · rw [List.getElem?_append_right (by omega)] at e1
        have : j - σ3.length = 0 ∨ 0 < j - σ3.length := by omega
        rcases this with z | z
        · rw [z] at e1; simp at e1
        · rw [List.getElem?_eq_none (by simp; omega)] at e1; cases e1
    rw [List.getElem?_append_left hj] at e1
    rw [List.getElem?_append_left (by omega)] at e2
    exact ⟨rfl, m, v0, c, e1, e2, e3, wk⟩
  · subst hq
    have inn : ∀ {j : Nat} {x : SV}, (σ3 ++ [some (SV.al j0 q0)])[j]? = some (some x) → x ≠ .al j0 q0 → σ3[j]? = some (some x) ∧ j < σ3.length := fun {j x} e ne => by
      by_cases hj : j < σ3.length
      · rw [List.getElem?_append_left hj] at e; exact ⟨e, hj⟩
      · rw [List.getElem?_append_right (by omega)] at e
        have : j - σ3.length = 0 ∨ 0 < j - σ3.length := by omega
        rcases this with z | z
        · rw [z] at e; simp at e; exact absurd e.symm ne
        · rw [List.getElem?_eq_none (by simp; omega)] at e; cases e
    cases sv with
    | v m => exact q
    | al j p =>
      obtain ⟨e0, m, v0, c, e1, e2, e3, wk⟩ := q
      obtain ⟨a1, hj⟩ := inn e1 (by intro z; cases z)
      have e2 : (r.w ++ [some v])[j]? = some (some v0) := e2
      rw [List.getElem?_append_left (by omega)] at e2
      exact ⟨e0, m, v0, c, a1, e2, e3, wk⟩
    | xr i =>
      obtain ⟨e0, hw, hs⟩ := q
      have hw : (r.w ++ [some v])[i]? = some (some v2) := hw
      rcases hs with ⟨c, m, e⟩ | ⟨c, e⟩
      · obtain ⟨a1, hj⟩ := inn e (by intro z; cases z)
        rw [List.getElem?_append_left (by omega)] at hw
        exact ⟨e0, hw, .inl ⟨c, m, a1⟩⟩
      · obtain ⟨a1, hj⟩ := inn e (by intro z; cases z)
        rw [List.getElem?_append_left (by omega)] at hw
        exact ⟨e0, hw, .inr ⟨c, a1⟩⟩
    | _ => exact q.elim
/-- x, which has come, waits while f runs -/
theorem holdR {β : Type} {f : XP → Env → (β → Env → Prop) → Prop} {x : SV} {σ1 : Env} {fp1 : List Addr} {v1 : V} {X : XP} {g : SV → β → Env → Prop} {G : Prop}
    (n1 : Nx W E r [] σ1 r1 fp1) (q : RS W r1 v1 fp1 x) (hX : ∀ c m σ', X c m σ' → XEp W E Wx r σV c m σ') (h : holdW x f X r1.σ g)
    (go : ∀ (r2 : Wr) (R : β → Wr → Prop), r2.H = r1.H → ER W E r2 → (∃ l, r2.w = r1.w ++ l) → Runs W E Wx f σV r2 R →
      (∀ (b : β) (r3 : Wr), R b r3 → ∀ fq, Nx W E r2 [] r3.σ r3 fq →
        ∃ (r4 : Wr) (x' : SV) (fx : List Addr), r4.H = r3.H ∧ Nx W E r [] r4.σ r4 (fq ++ fx) ∧ RS W r4 v1 fx x' ∧ (∀ sv v2 fp2, RS W r3 v2 fp2 sv → RS W r4 v2 fp2 sv) ∧ g x' b r4.σ) → G) : G := by
  cases x with
  | v m =>
    refine go r1 (fun b r3 => g (.v m) b r3.σ) rfl n1.er ⟨[], by simp⟩ ⟨X, fun y σ2 => g (.v m) y σ2, h, fun c m σ' hx => (hX c m σ' hx).later n1 (RM.there q), fun b σ' hk r' e => by subst e; exact hk⟩ fun b r3 hg fq n => ?_
    exact ⟨r3, .v m, fp1, rfl, n1.trans (n.wide n1.sep (RM.there q)), Nx.waits n1.er n1.sep n q, fun _ _ _ z => z, hg⟩
  | al i p =>
    obtain ⟨rfl, m, v0, c, e1, e2, e3, wk⟩ := q
    cases p with
    | nil =>
      refine go r1 (fun b r3 => normW r3.σ (.al i []) fun x' => g x' b r3.σ) rfl n1.er ⟨[], by simp⟩ ⟨X, _, h, fun c m σ' hx => (hX c m σ' hx).later n1 (by simp), fun b σ' hk r' e => by subst e; exact hk⟩ fun b r3 hg fq n => ?_
      have hv : v1 = v0 := wk
      subst hv
      obtain ⟨s, es, _⟩ := nthW_ex hg
      cases s with
      | v m3 =>
        have q3 : RS W r3 v1 [] (.al i []) := ⟨rfl, m3, v1, m3, es, by rw [n.w]; exact e2, rfl, rfl⟩
        obtain ⟨x', k, q'⟩ := normW_ex n.er q3 hg
        exact ⟨r3, x', [], rfl, by rw [List.append_nil]; exact n1.trans n, q', fun _ _ _ z => z, k⟩
      | _ =>
        obtain ⟨s', es', hg'⟩ := nthW_ex hg
        rw [es] at es'; cases es'
        exact hg'.elim
    | cons k p =>
      have h := pushW_ex h
      have q1 : RS W r1 v1 [] (.al i (k :: p)) := ⟨rfl, m, v0, c, e1, e2, e3, wk⟩
      have er2 := n1.er.push q1 (.nil n1.er) (by intro j e; cases e)
      refine go ⟨r1.F, r1.H, r1.σ ++ [some (.al i (k :: p))], r1.w ++ [some v1], r1.fps ++ [[]]⟩ (fun b r3 => popW r3.σ fun s σ3 => match s with
          | some (.al j q) => normW σ3 (.al j q) fun x' => g x' b σ3
          | _ => False) rfl er2 ⟨[some v1], rfl⟩ ⟨_, _, h, fun c' m' σ' hx => ?_, fun b σ' hk r' e => by subst e; exact hk⟩ fun b r3 hg fq n => ?_
      · intro r' fq d pv n' hd hh rm C hC
        obtain ⟨s, σ3, e, hx⟩ := popW_ex hx
        have hs : ∀ m, s ≠ some (.v m) := fun m z => by subst z; exact hx
        have hx : X c' m' σ3 := by
          rcases s with _ | s
          · exact hx
          · cases s <;> first | exact hx | exact (hs _ rfl).elim
        obtain ⟨r3, eF, eH, n3, _⟩ := pop_back n1.er n' e hs
        have hx' := (hX c' m' σ3 hx).later n1 (by simp)
        exact eH ▸ hx' r3 fq d pv n3 (eF ▸ hd) (by rw [eH]; exact hh) (by rw [eF, eH]; exact rm) C hC
      · obtain ⟨s, σ3, e, hg⟩ := popW_ex hg
        have hs : ∀ m, s ≠ some (.v m) := fun m z => by subst z; exact hg
        obtain ⟨r4, eF, eH, n4, al, tr⟩ := pop_back n1.er n e hs
        have e4 : r4.σ = σ3 := n4.σ
        cases s with
        | none => exact hg.elim
        | some s =>
          cases s with
          | al j q =>
            have q4 := al j q rfl
            rw [← e4] at hg
            obtain ⟨x', k, q'⟩ := normW_ex n4.er q4 hg
            exact ⟨r4, x', [], eH, by rw [List.append_nil, e4]; exact n1.trans n4, q', tr j q rfl, k⟩
          | _ => exact hg.elim
  | _ => exact h.elim
theorem Pre.app {w l : List (Option V)} (p : Pre σV w) : Pre σV (w ++ l) := by
  refine ⟨by have := p.1; simp; omega, fun i v hi e => p.2 i v hi ?_⟩
  rw [List.getElem?_append_left (by have := p.1; omega)] at e
  exact e
/-- a second expression -/
theorem holdE {b : QL.E} {x : SV} {σ1 : Env} {fp1 : List Addr} {v1 : V} {X : XP} {g : SV → SV → Env → Prop} {Q : VK}
    (n1 : Nx W E r [] σ1 r1 fp1) (q : RS W r1 v1 fp1 x) (hX : ∀ c m σ', X c m σ' → XEp W E Wx r σV c m σ') (pre : Pre σV r.w) (h : holdW x (evE Γ dp b) X r1.σ g)
    (go : ∀ (x' y : SV) (v2 : V) (r4 : Wr) (fx fy : List Addr), Nx W E r [] r4.σ r4 (fy ++ fx) → RS W r4 v1 fx x' → RS W r4 v2 fy y → g x' y r4.σ → Q v2 r4.H) : tE Γ dp W E Wx b σV r1.H Q := by
  refine holdR n1 q hX h fun r2 R eH er ⟨l, ew⟩ ⟨X', K, ev, hX', hK⟩ back => ?_
  refine ⟨r2, eH, er, by rw [ew, n1.w]; exact pre.app, X', K, ev, hX', fun sv σ' hk r3 e v2 fp2 n3 q3 => ?_⟩
  obtain ⟨r4, x', fx, eH4, n4, qx, tr, hg⟩ := back sv r3 (hK sv σ' hk r3 e) fp2 n3
  exact eH4 ▸ go x' sv v2 r4 fx fp2 n4 qx (tr _ _ _ q3) hg
theorem PE.of {X : Cx} {e : Expr} {t t' : TE} (h : PE X e t) (i : ∀ σ H Q, t' σ H Q → t σ H Q) : PE X e t' := ⟨fun pins s σ H Q I q => h.run pins s σ H Q I (i σ H Q q)⟩
end
end QL
end
section
set_option linter.all false
set_option maxRecDepth 100000
set_option maxHeartbeats 1000000
/-! SB2: new objects; operators by values. -/
namespace QL
open PySem PySem.Spec PyProof.Rows L2

section
variable {W : Wd} {E : List (Addr × Nat × Addr)} {r r1 r2 : Wr} {σ σ1 σ2 : Env} {fp0 fp fq fz : List Addr}
theorem Nx.perm (n : Nx W E r fp0 σ r1 fp) (p : fp.Perm fq) : Nx W E r fp0 σ r1 fq :=
  ⟨n.σ, n.er, n.w, n.st.sub fun a ha => (List.mem_append.mp ha).elim (fun z => List.mem_append_left _ z) fun z => List.mem_append_right _ (p.mem_iff.mpr z),
    ⟨(List.Perm.nodup_iff (List.Perm.append_left _ p)).mp n.sep.nd, fun a ha => n.sep.nf a (p.mem_iff.mpr ha)⟩⟩
theorem Nx.swap (n : Nx W E r fp0 σ r1 (fp ++ fq)) : Nx W E r fp0 σ r1 (fq ++ fp) := n.perm List.perm_append_comm
theorem Nx.less (n : Nx W E r fp0 σ r1 fp) (s : fq.Sublist fp) : Nx W E r fp0 σ r1 fq :=
  ⟨n.σ, n.er, n.w, n.st.sub fun a ha => (List.mem_append.mp ha).elim (fun z => List.mem_append_left _ z) fun z => List.mem_append_right _ (s.mem z),
    ⟨n.sep.nd.sublist (List.Sublist.append_left s _), fun a ha => n.sep.nf a (s.mem ha)⟩⟩
/-- something else waits during a step -/
theorem Nx.wideG (s : Sep r1 (fp ++ fz)) (th : ∀ a ∈ fz, r1.H a ≠ none) (b : Nx W E r1 fp σ2 r2 fq) : Nx W E r1 (fp ++ fz) σ2 r2 (fq ++ fz) := by
  have nd := List.nodup_append.mp s.nd
  have nd2 := List.nodup_append.mp nd.2.1
  have ap : ∀ a ∈ fz, a ∉ r1.A ++ fp := fun a ha z => by
    rcases List.mem_append.mp z with z | z
    · exact nd.2.2 a z a (List.mem_append_right _ ha) rfl
    · exact nd2.2.2 a z a ha rfl
  have ap2 : ∀ a ∈ fz, a ∉ r2.A ++ fq := b.st.apart th ap
  refine ⟨b.σ, b.er, b.w, ⟨b.st.f, fun a o e n => b.st.k a o e fun z => n ?_, fun x hx => ?_, fun x hx => ?_⟩, ⟨?_, fun x hx => ?_⟩⟩
  · rw [← List.append_assoc]; exact List.mem_append_left _ z
  · rw [← List.append_assoc] at hx
    rw [← List.append_assoc]
    rcases List.mem_append.mp hx with hx | hx
    · exact (b.st.a x hx).imp (fun z => List.mem_append_left _ z) id
    · exact .inl (List.mem_append_right _ hx)
  · rw [← List.append_assoc]
    exact (b.st.g x hx).imp id (Or.imp (fun z => List.mem_append_left _ z) id)
  · rw [← List.append_assoc]
    exact List.nodup_append.mpr ⟨b.sep.nd, nd2.2.1, fun x hx y hy z => by subst z; exact ap2 x hy hx⟩
  · rcases List.mem_append.mp hx with hx | hx
    · exact b.sep.nf x hx
    · exact b.st.notF th ap (fun a ha => s.nf a (List.mem_append_right _ ha)) x hx
theorem Nx.waitsG {m : M} {v : V} (e : ER W E r1) (s : Sep r1 (fp ++ fz)) (b : Nx W E r1 fp σ2 r2 fq) (q : RM W r1.F r1.H m v fz) : RM W r2.F r2.H m v fz := by
  have nd := List.nodup_append.mp s.nd
  have nd2 := List.nodup_append.mp nd.2.1
  refine q.keep b.st.f (fun a o f e' => b.st.k a o e' fun z => ?_) fun a ha o e' => b.st.k a o e' fun z => ?_
  · rcases List.mem_append.mp z with z | z
    · exact e.nf a z f
    · exact s.nf a (List.mem_append_left _ z) f
  · rcases List.mem_append.mp z with z | z
    · exact nd.2.2 a z a (List.mem_append_right _ ha) rfl
    · exact nd2.2.2 a z a ha rfl
/-- a new own object -/
theorem Nx.newOwn (n : Nx W E r fp0 σ r1 fp) {p : Addr} (hp : r1.H p = none) (o : HO) (th : ∀ a ∈ fp, r1.H a ≠ none) : Nx W E r fp0 σ { r1 with H := upd r1.H p o } (p :: fp) := by
  have up : ∀ a o', r1.H a = some o' → upd r1.H p o a = some o' := fun a o' e => by rw [upd_ne (ne_of_none e hp)]; exact e
  have er := n.er.grow (F' := r1.F) (H' := upd r1.H p o) (fun _ z => z) up (fun _ z => .inl z) fun a z => by
    cases e : r1.H a with
    | none => exact absurd e (n.er.df a z)
    | some o' => rw [up a o' e]; simp
  have back : r1.H p = none → p ∈ r.A ++ fp0 ∨ r.H p = none := fun e => by
    by_cases hA : p ∈ r.A ++ fp0
    · exact .inl hA
    · right
      cases e' : r.H p with
      | none => rfl
      | some o' => rw [n.st.k p o' e' hA] at e; cases e
  have pA : p ∉ r1.A := fun z => n.er.da p z hp
  refine ⟨n.σ, er, n.w, ⟨n.st.f, fun a o' e h => up a o' (n.st.k a o' e h), fun a ha => ?_, n.st.g⟩, ⟨?_, fun a ha z => ?_⟩⟩
  · rcases List.mem_append.mp ha with z | z
    · exact n.st.a a (List.mem_append_left _ z)
    · rcases List.mem_cons.mp z with rfl | z
      · exact back hp
      · exact n.st.a a (List.mem_append_right _ z)
  · have hf : p ∉ fp := fun z => th p z hp
    have nd := List.nodup_append.mp n.sep.nd
    refine List.nodup_append.mpr ⟨nd.1, List.nodup_cons.mpr ⟨hf, nd.2.1⟩, fun a ha b hb z => ?_⟩
    subst z
    rcases List.mem_cons.mp hb with rfl | hb
    · exact pA ha
    · exact nd.2.2 a ha a hb rfl
  · rcases List.mem_cons.mp ha with rfl | ha
    · exact n.er.df a z hp
    · exact n.sep.nf a ha z
/-- a new object that stays -/
theorem Nx.newShared (n : Nx W E r fp0 σ r1 fp) {p : Addr} (hp : r1.H p = none) (o : HO) (th : ∀ a ∈ fp, r1.H a ≠ none) : Nx W E r fp0 σ { r1 with F := fun a => r1.F a ∨ a = p, H := upd r1.H p o } fp := by
  have up : ∀ a o', r1.H a = some o' → upd r1.H p o a = some o' := fun a o' e => by rw [upd_ne (ne_of_none e hp)]; exact e
  have er := n.er.grow (F' := fun a => r1.F a ∨ a = p) (H' := upd r1.H p o) (fun _ z => .inl z) up (fun a z => z.imp id fun z => by subst z; exact hp) fun a z => by
    rcases z with z | rfl
    · cases e : r1.H a with
      | none => exact absurd e (n.er.df a z)
      | some o' => rw [up a o' e]; simp
    · rw [upd_same]; simp
  have back : r1.H p = none → p ∈ r.A ++ fp0 ∨ r.H p = none := fun e => by
    by_cases hA : p ∈ r.A ++ fp0
    · exact .inl hA
    · right
      cases e' : r.H p with
      | none => rfl
      | some o' => rw [n.st.k p o' e' hA] at e; cases e
  refine ⟨n.σ, er, n.w, ⟨fun a z => .inl (n.st.f a z), fun a o' e h => up a o' (n.st.k a o' e h), n.st.a, fun a z => ?_⟩, ⟨n.sep.nd, fun a ha z => ?_⟩⟩
  · rcases z with z | rfl
    · exact n.st.g a z
    · exact .inr (back hp)
  · rcases z with z | rfl
    · exact n.sep.nf a ha z
    · exact th a ha hp
theorem RM.upd {F : Addr → Prop} {H : Hp} {m : M} {v : V} {fp : List Addr} {p : Addr} {o : HO} (q : RM W F H m v fp) (hp : H p = none) : RM W F (L2.upd H p o) m v fp :=
  q.keep (fun _ z => z) (fun a o' _ e => by rw [upd_ne (ne_of_none e hp)]; exact e) fun a _ o' e => by rw [upd_ne (ne_of_none e hp)]; exact e
theorem RDs.upd {K : PySem.W.Frag} {F F' : Addr → Prop} {H : Hp} {ds : List D} {vs : List V} {p : Addr} {o : HO} (q : RDs K F H ds vs) (f : ∀ a, F a → F' a) (hp : H p = none) : RDs K F' (L2.upd H p o) ds vs :=
  q.keep f fun a o' _ e => by rw [upd_ne (ne_of_none e hp)]; exact e
theorem OpR.or {X : Cx} {f : Value → Value → Sem Value} {a b : R2} (h : OpR X f a) (h' : OpR X f b) : OpR X f (fun x y H Q => a x y H Q ∨ b x y H Q) := by
  intro pins s σ H x y v u Q I rx ry q
  rcases q with q | q
  · exact h pins s σ H x y v u Q I rx ry q
  · exact h' pins s σ H x y v u Q I rx ry q
def CPowW (i j : Int) : Prop := 0 ≤ j ∧ j ≤ 1000 ∧ i.natAbs.log2 < 100000
def CMulB (i j : Int) : Prop := i.natAbs.log2 + j.natAbs.log2 < 100000000
theorem intBits_le (x : Int) : Builtin.Int.intBits x ≤ x.natAbs.log2 + 1 := by
  unfold Builtin.Int.intBits
  split <;> omega
theorem CMulB.ok {i j : Int} (h : CMulB i j) : IntMulOk i j := by
  have h1 := intBits_le i
  have h2 := intBits_le j
  have h3 : i.natAbs.log2 + j.natAbs.log2 < 100000000 := h
  have e : bitsLine = 134217728 := by decide
  unfold IntMulOk
  intro z
  rw [Bool.and_eq_true] at z
  have z2 := z.2
  unfold Builtin.Int.intTooBig at z2
  have z3 := of_decide_eq_true z2
  rw [e] at z3
  omega
section
variable {X : Cx}
theorem op_powW : OpR X (binaryOp .Pow) (rI CPowW fun i j => .int (i ^ j.toNat)) := opI fun i j _ _ _ _ _ hc q => by
  obtain ⟨h0, h1, h2⟩ := hc
  refine PyProof.Rows.pow_int h0 ?_ q
  have b := intBits_le i
  have : (Builtin.Int.intBits i : Int) ≤ 100000 := by omega
  have h3 : (Builtin.Int.intBits i : Int) * j ≤ 100000 * 1000 := Int.mul_le_mul this h1 h0 (by decide)
  omega
theorem op_mulB : OpR X (binaryOp .Mult) (rI CMulB fun i j => .int (i * j)) := opI fun _ _ _ _ _ _ _ hc q => mul_int q hc.ok
end
def opOf : BOp → Operator
  | .add => .Add
  | .sub => .Sub
  | .mul => .Mult
  | .fdiv => .FloorDiv
  | .mod => .Mod
  | .pow => .Pow
def rAddS : R2 := fun x y H Q => ∃ i j, x = .str i ∧ y = .str j ∧ i.length + j.length ≤ sizeLine ∧ Q (.str (i ++ j)) H
def rBin (K : PySem.W.Frag) : BOp → R2
  | .add => fun x y H Q => rI0 (fun i j => .int (i + j)) x y H Q ∨ rAddS x y H Q ∨ rCat x y H Q ∨ rCatA K x y H Q
  | .sub => rI0 fun i j => .int (i - j)
  | .mul => fun x y H Q => rI CMulB (fun i j => .int (i * j)) x y H Q ∨ rRep x y H Q
  | .fdiv => rI CDivW fun i j => .int (i / j)
  | .mod => rI (fun _ j => 0 < j) fun i j => .int (i % j)
  | .pow => rI CPowW fun i j => .int (i ^ j.toNat)
theorem op_bin {X : Cx} (o : BOp) : OpR X (binaryOp (opOf o)) (rBin X.K o) := by
  cases o
  · exact op_add.or (op_add_str.or (op_cat.or op_catA))
  · exact op_sub
  · exact op_mulB.or op_rep
  · exact op_fdivW
  · exact op_mod
  · exact op_powW
end
end QL
end
section
set_option linter.all false
set_option maxRecDepth 100000
set_option maxHeartbeats 1000000
/-! SB3: what a run's end gives; two-place operators. -/
namespace QL
open PySem PySem.Spec PyProof.Rows L2

section
variable {Γ : Ctx} {dp : Bool} {W : Wd} {E : List (Addr × Nat × Addr)} {Wx : WX} {r r1 r2 r4 r5 r6 : Wr} {σV : L2.St} {Q : VK}
theorem strOk_append {x y : Str} (h : PyData.strOk x = true) (h2 : PyData.strOk y = true) : PyData.strOk (x ++ y) = true := by
  unfold PyData.strOk at *
  rw [show (x ++ y).cps = x.cps ++ y.cps from rfl, Array.all_append, h, h2]; rfl
/-- what is wanted of what has come -/
def Fin (W : Wd) (E : List (Addr × Nat × Addr)) (r : Wr) (Q : VK) (sv : SV) (σ' : Env) : Prop := ∀ r' : Wr, r'.σ = σ' → ∀ v fp, Nx W E r [] r'.σ r' fp → RS W r' v fp sv → Q v r'.H
theorem Nx.none {σ' : Env} {fp : List Addr} (n : Nx W E r [] σ' r1 fp) : Nx W E r [] σ' r1 [] := n.less (List.nil_sublist _)
theorem Fin.own {m : M} {v : V} {fp : List Addr} (f : Fin W E r Q (.v m) r5.σ) (n : Nx W E r [] r5.σ r5 fp) (q : RM W r5.F r5.H m v fp) : Q v r5.H := f r5 rfl v fp n q
theorem Fin.dat {d : D} {v : V} {fp : List Addr} (f : Fin W E r Q (.v (.dat d)) r5.σ) (n : Nx W E r [] r5.σ r5 fp) (q : RD W.K r5.F r5.H d v) : Q v r5.H := f r5 rfl v [] n.none (RM.dat q)
/-- a new list of data -/
theorem Fin.newSl {ds : List D} {vs : List V} {fp : List Addr} (f : Fin W E r Q (.v (.sl ds)) r5.σ) (n : Nx W E r [] r5.σ r5 fp) (q : RDs W.K r5.F r5.H ds vs) (ln : ds.length ≤ sizeLine) {p : Addr} (hp : r5.H p = .none) : Q (.ref p) (upd r5.H p (.lst vs)) := by
  have n' := n.none.newOwn hp (.lst vs) (by simp)
  exact f { r5 with H := upd r5.H p (.lst vs) } rfl (.ref p) [p] n' (RM.sl upd_same ln (q.upd (fun _ z => z) hp))
theorem RMs.upd {F F' : Addr → Prop} {H : Hp} {ms : List M} {vs : List V} {fp : List Addr} {p : Addr} {o : HO} (q : RMs W F H ms vs fp) (f : ∀ a, F a → F' a) (hp : H p = Option.none) : RMs W F' (L2.upd H p o) ms vs fp :=
  q.keep f (fun a o' _ e => by rw [upd_ne (ne_of_none e hp)]; exact e) fun a _ o' e => by rw [upd_ne (ne_of_none e hp)]; exact e
theorem Fin.newLst {ms : List M} {vs : List V} {fp : List Addr} (f : Fin W E r Q (.v (.lst ms)) r5.σ) (n : Nx W E r [] r5.σ r5 fp) (q : RMs W r5.F r5.H ms vs fp) (ln : ms.length ≤ sizeLine) {p : Addr} (hp : r5.H p = .none) : Q (.ref p) (upd r5.H p (.lst vs)) := by
  have n' := n.newOwn hp (.lst vs) q.there
  exact f { r5 with H := upd r5.H p (.lst vs) } rfl (.ref p) (p :: fp) n' (RM.lst upd_same ln (q.upd (fun _ z => z) hp))
/-- a new tuple of data -/
theorem Fin.newTd {ds : List D} {vs : List V} {fp : List Addr} (f : Fin W E r Q (.v (.dat (.tuple ds))) r5.σ) (n : Nx W E r [] r5.σ r5 fp) (q : RDs W.K r5.F r5.H ds vs) (ln : ds.length ≤ sizeLine) {p : Addr} (hp : r5.H p = .none) : Q (.ref p) (upd r5.H p (.tup vs)) := by
  have n' := n.none.newShared hp (.tup vs) (by simp)
  exact f ⟨fun a => r5.F a ∨ a = p, upd r5.H p (.tup vs), r5.σ, r5.w, r5.fps⟩ rfl (.ref p) [] n' (RM.dat (.tuple (.inl ⟨.inr rfl, upd_same⟩) ln (q.upd (fun _ z => .inl z) hp)))
theorem Fin.newTm {ms : List M} {vs : List V} {fp : List Addr} (f : Fin W E r Q (.v (.tup ms)) r5.σ) (n : Nx W E r [] r5.σ r5 fp) (q : RMs W r5.F r5.H ms vs fp) (ln : ms.length ≤ sizeLine) {p : Addr} (hp : r5.H p = .none) : Q (.ref p) (upd r5.H p (.tup vs)) := by
  have n' := n.newShared hp (.tup vs) q.there
  exact f ⟨fun a => r5.F a ∨ a = p, upd r5.H p (.tup vs), r5.σ, r5.w, r5.fps⟩ rfl (.ref p) fp n' (RM.tup (.inr rfl) upd_same ln (q.upd (fun _ z => .inl z) hp))
theorem dats_RDs {F : Addr → Prop} {H : Hp} : ∀ {ms : List M} {ds : List D} {vs : List V} {fp : List Addr}, RMs W F H ms vs fp → dats ms = some ds → RDs W.K F H ds vs ∧ fp = [] ∧ ds.length = ms.length
  | [], ds, _, _, .nil, e => by cases e; exact ⟨.nil, rfl, rfl⟩
  | m :: ms, ds, _, _, .cons r t, e => by
    cases m with
    | dat d =>
      simp only [dats, Option.map_eq_some_iff] at e
      obtain ⟨ds', e, rfl⟩ := e
      obtain ⟨a, b, c⟩ := dats_RDs t e
      cases r with
      | dat r => exact ⟨.cons r a, by simp [b], by simp [c]⟩
    | _ => simp [dats] at e
theorem Fin.newL {ms : List M} {vs : List V} {fp : List Addr} (f : Fin W E r Q (.v (mkL ms)) r5.σ) (n : Nx W E r [] r5.σ r5 fp) (q : RMs W r5.F r5.H ms vs fp) (ln : ms.length ≤ sizeLine) {p : Addr} (hp : r5.H p = .none) : Q (.ref p) (upd r5.H p (.lst vs)) := by
  unfold mkL at f
  split at f
  · rename_i ds e
    obtain ⟨a, _, c⟩ := dats_RDs q e
    exact f.newSl n a (by omega) hp
  · exact f.newLst n q ln hp
theorem Fin.newT {ms : List M} {vs : List V} {fp : List Addr} (f : Fin W E r Q (.v (mkT ms)) r5.σ) (n : Nx W E r [] r5.σ r5 fp) (q : RMs W r5.F r5.H ms vs fp) (ln : ms.length ≤ sizeLine) {p : Addr} (hp : r5.H p = .none) : Q (.ref p) (upd r5.H p (.tup vs)) := by
  unfold mkT at f
  split at f
  · rename_i ds e
    obtain ⟨a, _, c⟩ := dats_RDs q e
    exact f.newTd n a (by omega) hp
  · exact f.newTm n q ln hp

/-- what has come, where something else has come behind it and the objects have not changed -/
theorem RS.same {sv : SV} {v : V} {fp fz fq : List Addr} {σ' : Env} {K : M → Prop} (q : RS W r4 v fp sv) (n : Nx W E r4 fz σ' r5 fq) (eH : r5.H = r4.H) (g : getW r5.σ sv K) : RS W r5 v fp sv := by
  cases sv with
  | v m => exact RM.keep n.st.f (fun a o _ e => by rw [eH]; exact e) q fun a _ o e => by rw [eH]; exact e
  | al j p =>
    obtain ⟨e0, m, v0, c, e1, e2, e3, w⟩ := q
    obtain ⟨s, e, g⟩ := nthW_ex g
    cases s with
    | v m' =>
      obtain ⟨c', e4, g⟩ := atW_ex g
      exact ⟨e0, m', v0, c', e, by rw [n.w]; exact e2, e4, by rw [eH]; exact w⟩
    | _ => exact g.elim
  | _ => exact g.elim
theorem settle_get {sv : SV} {σ : Env} {K : M → Env → Prop} (g : settleSW sv σ K) : ∃ K', getW σ sv K' := by
  cases sv with
  | v m => exact ⟨fun _ => True, trivial⟩
  | al j p => exact ⟨_, g⟩
  | _ => exact g.elim
theorem RM.same {F F' : Addr → Prop} {H H' : Hp} {m : M} {v : V} {fp : List Addr} (q : RM W F H m v fp) (f : ∀ a, F a → F' a) (e : H' = H) : RM W F' H' m v fp :=
  q.keep f (fun a o _ z => by rw [e]; exact z) fun a _ o z => by rw [e]; exact z
/-- both operands settled -/
theorem settle2_ex {x y : SV} {v1 v2 : V} {fx fy : List Addr} {K : M → M → Env → Prop} (n4 : Nx W E r [] r4.σ r4 (fy ++ fx)) (qx : RS W r4 v1 fx x) (qy : RS W r4 v2 fy y) (g : settleSW x r4.σ fun a σ1 => settleSW y σ1 fun b σ2 => K a b σ2) :
    ∃ r6 a b fa fb fq, Nx W E r [] r6.σ r6 fq ∧ K a b r6.σ ∧ RM W r6.F r6.H a v1 fa ∧ RM W r6.F r6.H b v2 fb ∧ r6.H = r4.H := by
  obtain ⟨r5, a, fq, fn, n5, g, ra, _, s5, e5⟩ := settleSW_ex n4.er qx n4.sep.right g
  have w5 := Nx.wideG n4.sep.swap qy.there n5
  have t5 := n4.swap.trans w5
  obtain ⟨K', gy⟩ := settle_get g
  have qy5 := qy.same n5 e5 gy
  obtain ⟨r6, b, fq2, fn2, n6, g, rb, _, s6, e6⟩ := settleSW_ex n5.er qy5 t5.sep.right g
  have w6 := Nx.wideG t5.sep.swap (fun a ha => ra.there a (s5 a ha)) n6
  exact ⟨r6, a, b, fn, fn2, _, t5.swap.trans w6, g, ra.same n6.st.f e6, rb, e6.trans e5⟩
/-- a list's items -/
theorem isList_ex {F : Addr → Prop} {H : Hp} {m : M} {v : V} {fp : List Addr} {K : List D → Prop} (q : RM W F H m v fp) (z : isList m = true) (g : itemsW m K) : ∃ ds p vs, K ds ∧ v = .ref p ∧ H p = some (.lst vs) ∧ RDs W.K F H ds vs ∧ ds.length ≤ sizeLine := by
  cases q with
  | dat r => cases r with
    | list f h ln r => exact ⟨_, _, _, g, rfl, h, r, ln⟩
    | _ => cases z
  | sl h ln r => exact ⟨_, _, _, g, rfl, h, r, ln⟩
  | lst _ _ _ => exact g.elim
  | _ => cases z
theorem isTup_ex {F : Addr → Prop} {H : Hp} {m : M} {v : V} {fp : List Addr} {K : List D → Prop} (q : RM W F H m v fp) (z : isTup m = true) (g : itemsW m K) : ∃ ds p vs, K ds ∧ v = .ref p ∧ TupF W.K F H p vs ∧ RDs W.K F H ds vs ∧ ds.length ≤ sizeLine := by
  cases q with
  | dat r => cases r with
    | tuple h ln r => exact ⟨_, _, _, g, rfl, h, r, ln⟩
    | _ => cases z
  | tup _ _ _ _ => exact g.elim
  | _ => cases z
theorem sizeL : (16777216 : Nat) = sizeLine := by decide
theorem rep_RDs {K : PySem.W.Frag} {F : Addr → Prop} {H : Hp} {ds : List D} {vs : List V} (q : RDs K F H ds vs) : ∀ n, RDs K F H (List.replicate n ds).flatten (List.replicate n vs).flatten
  | 0 => .nil
  | n + 1 => by
    rw [List.replicate_succ, List.replicate_succ, List.flatten_cons, List.flatten_cons]
    exact q.append (rep_RDs q n)
theorem rep_len {α : Type} (ds : List α) : ∀ n, (List.replicate n ds).flatten.length = ds.length * n
  | 0 => rfl
  | n + 1 => by rw [List.replicate_succ, List.flatten_cons, List.length_append, rep_len ds n, Nat.mul_succ]; omega
theorem binW_ok {o : BOp} {a b : M} {v1 v2 : V} {fa fb fq : List Addr} {K : M → Prop} (n : Nx W E r [] r6.σ r6 fq) (ra : RM W r6.F r6.H a v1 fa) (rb : RM W r6.F r6.H b v2 fb) (g : binW o a b K) (hK : ∀ m, K m → Fin W E r Q (.v m) r6.σ) : rBin W.K o v1 v2 r6.H Q := by
  unfold binW at g
  split at g
  · rename_i i j
    cases ra with
    | dat ra => cases rb with
      | dat rb => cases ra; cases rb
                  cases o with
                  | add => exact .inl ⟨i, j, rfl, rfl, (hK _ g).dat n .int⟩
                  | sub => exact ⟨i, j, rfl, rfl, (hK _ g).dat n .int⟩
                  | mul => exact .inl ⟨i, j, rfl, rfl, g.1, (hK _ g.2).dat n .int⟩
                  | fdiv => exact ⟨i, j, rfl, rfl, g.1, (hK _ g.2).dat n .int⟩
                  | mod => exact ⟨i, j, rfl, rfl, g.1, (hK _ g.2).dat n .int⟩
                  | pow => exact ⟨i, j, rfl, rfl, g.1, (hK _ g.2).dat n .int⟩
  · rename_i x y
    cases ra with
    | dat ra => cases rb with
      | dat rb =>
        cases ra with
        | str k1 l1 => cases rb with
          | str k2 l2 =>
            cases o with
            | add => exact .inr (.inl ⟨x, y, rfl, rfl, by rw [← sizeL]; exact g.1, (hK _ g.2).dat n (.str (strOk_append k1 k2) (by rw [← sizeL]; rw [Str.length_append]; exact g.1))⟩)
            | _ => exact g.elim
  · cases o with
    | add =>
      simp only at g
      split at g
      · rename_i z
        rw [Bool.and_eq_true] at z
        obtain ⟨ds, p, vs, g, rfl, h1, q1, l1⟩ := isList_ex ra z.1 g
        obtain ⟨es, p', us, g, rfl, h2, q2, l2⟩ := isList_ex rb z.2 g
        refine .inr (.inr (.inl ⟨p, p', vs, us, rfl, rfl, h1, h2, ?_, fun l hl => ?_⟩))
        · rw [← q1.length, ← q2.length, ← sizeL]; exact g.1
        · exact (hK _ g.2).newSl n (q1.append q2) (by rw [List.length_append, ← sizeL]; exact g.1) hl
      · split at g
        · rename_i z
          rw [Bool.and_eq_true] at z
          obtain ⟨ds, p, vs, g, rfl, h1, q1, l1⟩ := isTup_ex ra z.1 g
          obtain ⟨es, p', us, g, rfl, h2, q2, l2⟩ := isTup_ex rb z.2 g
          refine .inr (.inr (.inr ⟨p, p', vs, us, rfl, rfl, h1.sq, h2.sq, ?_, fun e => ?_, fun _ e => ?_, fun _ _ l hl => ?_⟩))
          · rw [← q1.length, ← q2.length, ← sizeL]; exact g.1
          · have : ds = [] := List.eq_nil_of_length_eq_zero (by rw [q1.length, e]; rfl)
            subst this
            exact (hK _ g.2).dat n (.tuple h2 l2 q2)
          · have : es = [] := List.eq_nil_of_length_eq_zero (by rw [q2.length, e]; rfl)
            subst this
            have := (hK _ g.2)
            rw [List.append_nil] at this
            exact this.dat n (.tuple h1 l1 q1)
          · exact (hK _ g.2).newTd n (q1.append q2) (by rw [List.length_append, ← sizeL]; exact g.1) hl
        · exact g.elim
    | mul =>
      simp only at g
      split at g
      · rename_i ds k _ _
        obtain ⟨⟨k0, k1, k2⟩, g⟩ := g
        cases ra with
        | sl h ln q => cases rb with
          | dat rb => cases rb with
            | int =>
              refine .inr ⟨_, k, _, rfl, rfl, h, by omega, by omega, ?_, fun l hl => ?_⟩
              · rw [← q.length, ← sizeL]; exact k2
              · exact (hK _ g).newSl n (rep_RDs q _) (by rw [rep_len, ← sizeL]; exact k2) hl
      · exact g.elim
    | _ => exact g.elim
theorem bin_val {o : BOp} {x y : SV} {v1 v2 : V} {fx fy : List Addr} {K : KS} (n4 : Nx W E r [] r4.σ r4 (fy ++ fx)) (qx : RS W r4 v1 fx x) (qy : RS W r4 v2 fy y) (g : binSW o x y r4.σ K) (hK : ∀ sv σ', K sv σ' → Fin W E r Q sv σ') : rBin W.K o v1 v2 r4.H Q := by
  obtain ⟨r6, a, b, fa, fb, fq, n, g, ra, rb, e⟩ := settle2_ex (K := fun a b σ2 => binW o a b fun m => K (.v m) σ2) n4 qx qy g
  rw [← e]
  exact binW_ok n ra rb g fun m k => hK _ _ k
theorem i_bin {o : BOp} {a b : QL.E} {σV : L2.St} {H : Hp} (h : tE Γ dp W E Wx (.bin o a b) σV H Q) : tOp (rBin W.K o) (tE Γ dp W E Wx a) (tE Γ dp W E Wx b) σV H Q := by
  obtain ⟨r, rfl, er, pre, X, K, ev, hX, hK⟩ := h
  refine ⟨r, rfl, er, pre, X, _, ev, hX, fun x σ1 g r1 e v1 fp1 n1 q1 => ?_⟩
  subst e
  exact holdE n1 q1 hX pre g fun x' y v2 r4 fx fy n4 qx qy g => bin_val n4 qx qy g fun sv σ' k => hK sv σ' k
end
end QL
end
section
set_option linter.all false
set_option maxRecDepth 100000
set_option maxHeartbeats 1000000
/-! SB4: data compared; truth. -/
namespace QL
open PySem PySem.Spec PyProof.Rows L2

section
variable {K : PySem.W.Frag} {F : Addr → Prop} {H : Hp}
mutual
theorem RD.dp : ∀ {d : D} {v : V}, RD K F H d v → dep d < 1000 → Dp K H v d
  | _, _, .none, _ => .non
  | _, _, .bool, _ => .bl _
  | _, _, .int, _ => .int _
  | _, _, .str _ _, _ => .str _
  | _, _, .list f h ln r, g => .lst (.inl (.inl h)) (RDs.dp r (by simp only [dep] at g; omega))
  | _, _, .tuple h ln r, g => .tup h.sq (RDs.dp r (by simp only [dep] at g; omega))
  | _, _, .dict _ _ _ _, g => by simp [dep] at g
theorem RDs.dp : ∀ {ds : List D} {vs : List V}, RDs K F H ds vs → depAll ds < 1000 → DpAll K H vs ds
  | _, _, .nil, _ => .nil
  | _, _, .cons r t, g => .cons (RD.dp r (by simp only [depAll] at g; omega)) (RDs.dp t (by simp only [depAll] at g; omega))
end
mutual
theorem RD.lay : ∀ {d : D} {v : V}, RD K F H d v → dep d < 1000 → d.canLay0 = true ∧ d.depth = dep d
  | _, _, .none, _ => ⟨rfl, rfl⟩
  | _, _, .bool, _ => ⟨rfl, rfl⟩
  | _, _, .int, _ => ⟨rfl, rfl⟩
  | _, _, .str ok _, _ => ⟨by simpa [PyData.canLay0] using ok, rfl⟩
  | .list ds, _, .list f h ln r, g => by
    obtain ⟨a, b⟩ := RDs.lay r (by simp only [dep] at g; omega)
    exact ⟨by simpa [PyData.canLay0] using a, by simp only [PyData.depth, dep, b]⟩
  | .tuple ds, _, .tuple h ln r, g => by
    obtain ⟨a, b⟩ := RDs.lay r (by simp only [dep] at g; omega)
    exact ⟨by simpa [PyData.canLay0] using a, by simp only [PyData.depth, dep, b]⟩
  | _, _, .dict _ _ _ _, g => by simp [dep] at g
theorem RDs.lay : ∀ {ds : List D} {vs : List V}, RDs K F H ds vs → depAll ds < 1000 → PyData.canLayAll0 ds = true ∧ PyData.depthAll ds = depAll ds
  | _, _, .nil, _ => ⟨rfl, rfl⟩
  | _, _, .cons r t, g => by
    obtain ⟨a, b⟩ := RD.lay r (by simp only [depAll] at g; omega)
    obtain ⟨c, d⟩ := RDs.lay t (by simp only [depAll] at g; omega)
    exact ⟨by simp only [PyData.canLayAll0, a, c, Bool.and_self], by simp only [PyData.depthAll, depAll, b, d]⟩
end
theorem okD_le {d : D} (h : okD d = true) : dep d ≤ 64 := Nat.le_of_ble_eq_true h
theorem RD.shaped {d : D} {v : V} (r : RD K F H d v) (h : okD d = true) : Dp K H v d ∧ SeqAt.shaped d = true := by
  have := okD_le h
  obtain ⟨a, b⟩ := r.lay (by omega)
  exact ⟨r.dp (by omega), by unfold SeqAt.shaped; rw [a, b]; simpa using this⟩
end
theorem RM.pyT {W : Wd} {F : Addr → Prop} {H : Hp} {m : M} {v : V} {fp : List Addr} {d : D} (q : RM W F H m v fp) (e : m.pyO = some d) : RD W.K (fun _ => True) H d v := q.py (fun _ _ => trivial) (fun _ _ => trivial) e

/-! ### the operators' rules -/
def rInTD (K : PySem.W.Frag) (neg : Bool) : R2 := fun x y H Q => ∃ d ds, Dp K H x d ∧ Dp K H y (.tuple ds) ∧ SeqAt.shaped d = true ∧ SeqAt.shaped (.tuple ds) = true ∧ Q (.bl (if neg then !ds.any fun z => PyData.eqv z d else ds.any fun z => PyData.eqv z d)) H
def rInLD (K : PySem.W.Frag) (neg : Bool) : R2 := fun x y H Q => ∃ d ds, Dp K H x d ∧ Dp K H y (.list ds) ∧ SeqAt.shaped d = true ∧ SeqAt.shaped (.list ds) = true ∧ Q (.bl (if neg then !ds.any fun z => PyData.eqv z d else ds.any fun z => PyData.eqv z d)) H
def rInS (neg : Bool) : R2 := fun x y H Q => ∃ i j, x = .str i ∧ y = .str j ∧ Q (.bl (if neg then !(!(Builtin.Str.occurrences j i 0 j.length 1).isEmpty) else !(Builtin.Str.occurrences j i 0 j.length 1).isEmpty)) H
def rInDk (neg : Bool) : R2 := fun x y H Q => ∃ a o, y = .ref a ∧ DGet H a x o ∧ Q (.bl (if neg then !o.isSome else o.isSome)) H
section
variable {X : Cx}
theorem op_inTD (hu : X.A.units + 65 < cLine) : OpR X (compareOp .In) (rInTD X.K false) := by
  intro pins s σ H x y v u Q I rx ry h
  obtain ⟨d, ds, hd, he, sd, se, q⟩ := h
  obtain ⟨as, r1⟩ := Dp.reads I d x v hd rx
  obtain ⟨bs, r2⟩ := Dp.reads I (.tuple ds) y u he ry
  exact SeqAt.in_tuple_reads r2 r1 (SeqAt.canLay_of_shaped se) (SeqAt.canLay_of_shaped sd) (room_in_shaped sd hu) ⟨.bl _, H, I, rfl, q⟩
theorem op_notInTD (hu : X.A.units + 65 < cLine) : OpR X (compareOp .NotIn) (rInTD X.K true) := by
  intro pins s σ H x y v u Q I rx ry h
  obtain ⟨d, ds, hd, he, sd, se, q⟩ := h
  obtain ⟨as, r1⟩ := Dp.reads I d x v hd rx
  obtain ⟨bs, r2⟩ := Dp.reads I (.tuple ds) y u he ry
  exact SeqAt.notIn_tuple_reads r2 r1 (SeqAt.canLay_of_shaped se) (SeqAt.canLay_of_shaped sd) (room_in_shaped sd hu) ⟨.bl _, H, I, rfl, q⟩
theorem op_inDk (hu : X.A.units + 65 < cLine) : OpR X (compareOp .In) (rInDk false) := by
  intro pins s σ H x y v u Q I rx ry h
  obtain ⟨a, o, rfl, g, q⟩ := h
  cases ry
  exact d_in (by omega) I g rx fun s' I' => ⟨.bl _, H, I', rfl, q⟩
theorem op_notInDk (hu : X.A.units + 65 < cLine) : OpR X (compareOp .NotIn) (rInDk true) := by
  intro pins s σ H x y v u Q I rx ry h
  obtain ⟨a, o, rfl, g, q⟩ := h
  cases ry
  exact d_notIn (by omega) I g rx fun s' I' => ⟨.bl _, H, I', rfl, q⟩
end
def rNeverR : R2 := fun _ _ _ _ => False
def rCmp (K : PySem.W.Frag) : COp → R2
  | .eq => rEqD K
  | .ne => rNeD K
  | .lt => rI0 fun i j => .bl (decide (i < j))
  | .le => rI0 fun i j => .bl (decide (i ≤ j))
  | .gt => rI0 fun i j => .bl (decide (j < i))
  | .ge => rI0 fun i j => .bl (decide (j ≤ i))
  | .isn => fun x y H Q => y = .non ∧ Q (.bl (decide (x = .non))) H
  | .notn => fun x y H Q => y = .non ∧ Q (.bl (!decide (x = .non))) H
  | .isin => fun x y H Q => rInTD K false x y H Q ∨ rInLD K false x y H Q ∨ rInS false x y H Q ∨ rInDk false x y H Q
  | .notin => fun x y H Q => rInTD K true x y H Q ∨ rInLD K true x y H Q ∨ rInS true x y H Q ∨ rInDk true x y H Q
def cmpOf : COp → CmpOp
  | .eq => .Eq
  | .ne => .NotEq
  | .lt => .Lt
  | .le => .LtE
  | .gt => .Gt
  | .ge => .GtE
  | .isn => .Is
  | .notn => .IsNot
  | .isin => .In
  | .notin => .NotIn
theorem op_cmp {X : Cx} (hu : X.A.units + 65 < cLine) : ∀ o : COp, OpR X (compareOp (cmpOf o)) (rCmp X.K o)
  | .eq => op_eqD (by omega)
  | .ne => op_neD (by omega)
  | .lt => op_lt
  | .le => op_le
  | .gt => op_gt
  | .ge => op_ge
  | .isn => op_isN
  | .notn => op_notN
  | .isin => (op_inTD hu).or ((op_inD hu).or ((op_in_str).or (op_inDk hu)))
  | .notin => (op_notInTD hu).or ((op_notInD hu).or ((op_notin_str).or (op_notInDk hu)))
theorem rCmp_mono {K : PySem.W.Frag} {o : COp} {x y : V} {H : Hp} {Q Q' : VK} (h : rCmp K o x y H Q) (m : ∀ b H, Q (.bl b) H → Q' (.bl b) H) : rCmp K o x y H Q' := by
  cases o with
  | eq => obtain ⟨d, e, a1, a2, a3, a4, q⟩ := h; exact ⟨d, e, a1, a2, a3, a4, m _ _ q⟩
  | ne => obtain ⟨d, e, a1, a2, a3, a4, q⟩ := h; exact ⟨d, e, a1, a2, a3, a4, m _ _ q⟩
  | lt => obtain ⟨i, j, a1, a2, q⟩ := h; exact ⟨i, j, a1, a2, m _ _ q⟩
  | le => obtain ⟨i, j, a1, a2, q⟩ := h; exact ⟨i, j, a1, a2, m _ _ q⟩
  | gt => obtain ⟨i, j, a1, a2, q⟩ := h; exact ⟨i, j, a1, a2, m _ _ q⟩
  | ge => obtain ⟨i, j, a1, a2, q⟩ := h; exact ⟨i, j, a1, a2, m _ _ q⟩
  | isn => exact ⟨h.1, m _ _ h.2⟩
  | notn => exact ⟨h.1, m _ _ h.2⟩
  | isin =>
    rcases h with h | h | h | h
    · obtain ⟨d, e, a1, a2, a3, a4, q⟩ := h; exact .inl ⟨d, e, a1, a2, a3, a4, m _ _ q⟩
    · obtain ⟨d, e, a1, a2, a3, a4, q⟩ := h; exact .inr (.inl ⟨d, e, a1, a2, a3, a4, m _ _ q⟩)
    · obtain ⟨d, e, a1, a2, q⟩ := h; exact .inr (.inr (.inl ⟨d, e, a1, a2, m _ _ q⟩))
    · obtain ⟨d, e, a1, a2, q⟩ := h; exact .inr (.inr (.inr ⟨d, e, a1, a2, m _ _ q⟩))
  | notin =>
    rcases h with h | h | h | h
    · obtain ⟨d, e, a1, a2, a3, a4, q⟩ := h; exact .inl ⟨d, e, a1, a2, a3, a4, m _ _ q⟩
    · obtain ⟨d, e, a1, a2, a3, a4, q⟩ := h; exact .inr (.inl ⟨d, e, a1, a2, a3, a4, m _ _ q⟩)
    · obtain ⟨d, e, a1, a2, q⟩ := h; exact .inr (.inr (.inl ⟨d, e, a1, a2, m _ _ q⟩))
    · obtain ⟨d, e, a1, a2, q⟩ := h; exact .inr (.inr (.inr ⟨d, e, a1, a2, m _ _ q⟩))

section
variable {W : Wd} {F : Addr → Prop} {H : Hp}
theorem RD.non_iff {K : PySem.W.Frag} {d : D} {v : V} (r : RD K F H d v) : decide (v = .non) = isNoneD d := by cases r <;> simp [isNoneD]
theorem RM.non_iff {m : M} {v : V} {fp : List Addr} (r : RM W F H m v fp) : decide (v = .non) = isNoneM m := by
  cases r with
  | dat r => exact r.non_iff
  | _ => simp [isNoneM]
/-- keys -/
theorem RKs.key {K : PySem.W.Frag} {d : D} {v : V} (r : RD K F H d v) (h : keyK d = true) : ∃ k, keyOf d = some k ∧ v = kV k := by
  cases r with
  | int => exact ⟨_, rfl, rfl⟩
  | str => exact ⟨_, rfl, rfl⟩
  | _ => cases h
theorem eqv_int (i j : Int) : PyData.eqv (.int i) (.int j) = (i == j) := by simp only [PyData.eqv]
theorem eqv_str (i j : Str) : PyData.eqv (.str i) (.str j) = (i == j) := by simp only [PyData.eqv]
theorem key_eqv {d e : D} {k l : Key} (h : keyOf d = some k) (h' : keyOf e = some l) : PyData.eqv d e = decide (k = l) := by
  cases d <;> cases h <;> cases e <;> cases h'
  · rw [eqv_int, key_ll]
  · simp [PyData.eqv]
  · simp [PyData.eqv]
  · rw [eqv_str, key_rr]; rw [Bool.beq_eq_decide_eq]
/-- what a dict holds at a key -/
inductive RO (K : PySem.W.Frag) (F : Addr → Prop) (H : Hp) : Option D → Option V → Prop
  | none : RO K F H .none .none
  | some {d : D} {v : V} (r : RD K F H d v) : RO K F H (some d) (some v)
theorem dget_nil {k : D} : dget [] k = none := rfl
theorem dget_cons {d e k : D} {r : List (D × D)} : dget ((d, e) :: r) k = if PyData.eqv d k = true then some e else dget r k := by
  unfold dget
  rw [List.find?_cons]
  cases PyData.eqv d k <;> rfl
theorem RKs.get {K : PySem.W.Frag} {x : D} {k : Key} (hk : keyOf x = some k) : ∀ {ds : List (D × D)} {kvs : List (Key × V)}, RKs K F H ds kvs → RO K F H (dget ds x) (valV kvs k)
  | _, _, .nil => .none
  | _, _, .cons (d := d) (e := e) (k := l) (v := v) (ds := ds) (kvs := kvs) h rk r t => by
    rw [dget_cons, key_eqv h hk]
    by_cases z : l = k
    · rw [valV_pos (p := (l, v)) z, decide_eq_true z, if_pos rfl]; exact .some r
    · rw [valV_neg (p := (l, v)) z, decide_eq_false z, if_neg (by simp)]; exact RKs.get hk t
theorem RO.isSome {K : PySem.W.Frag} {a : Option D} {b : Option V} (r : RO K F H a b) : a.isSome = b.isSome := by cases r <;> rfl
theorem RKs.length {K : PySem.W.Frag} : ∀ {ds : List (D × D)} {kvs : List (Key × V)}, RKs K F H ds kvs → ds.length = kvs.length
  | _, _, .nil => rfl
  | _, _, .cons _ _ _ t => by simp [t.length]
theorem dget_of {K : PySem.W.Frag} {F : Addr → Prop} {a : Addr} {kvs : List (Key × V)} {ds : List (D × D)} {x : D} {v : V} (e : H a = some (.dK kvs)) (r : RKs K F H ds kvs) (hx : RD K (fun _ => True) H x v) (hk : keyK x = true) : ∃ o, DGet H a v o ∧ RO K F H (dget ds x) o := by
  obtain ⟨k, h1, rfl⟩ := RKs.key hx hk
  exact ⟨_, .k e, r.get h1⟩
theorem inW_ok {neg : Bool} {x : D} {b : M} {v1 v2 : V} {fb : List Addr} {Q : VK} {o : COp} (ho : o = if neg then .notin else .isin) (rx : RD W.K (fun _ => True) H x v1) (rb : RM W F H b v2 fb) {Kb : Bool → Prop} (g : inW x b Kb) (hk0 : ∀ k, Kb k → Q (.bl (if neg then !k else k)) H) : rCmp W.K o v1 v2 H Q := by
  have fin : (rInTD W.K neg v1 v2 H Q ∨ rInLD W.K neg v1 v2 H Q ∨ rInS neg v1 v2 H Q ∨ rInDk neg v1 v2 H Q) → rCmp W.K o v1 v2 H Q := fun z => by
    subst ho
    cases neg <;> exact z
  refine fin ?_
  unfold inW at g
  split at g
  · split at g
    · cases rb with
      | dat rb => cases rb with
        | str => cases rx with
          | str => exact .inr (.inr (.inl ⟨_, _, rfl, rfl, by cases neg <;> exact hk0 _ g⟩))
    · exact g.elim
  · obtain ⟨hk, g⟩ := g
    cases rb with
    | dic h ln r =>
      obtain ⟨o', e, ro⟩ := dget_of h r rx hk
      rw [ro.isSome] at g
      exact .inr (.inr (.inr ⟨_, o', rfl, e, hk0 _ g⟩))
  · obtain ⟨hk, g⟩ := g
    cases rb with
    | dat rb => cases rb with
      | dict f h ln r =>
        obtain ⟨o', e, ro⟩ := dget_of h r rx hk
        rw [ro.isSome] at g
        exact .inr (.inr (.inr ⟨_, o', rfl, e, hk0 _ g⟩))
  · nomatch rb
  · obtain ⟨d, e, g⟩ := pyW_ex g
    have rd := rb.pyT e
    split at g
    · obtain ⟨h1, h2, g⟩ := g
      obtain ⟨a1, a2⟩ := rx.shaped h1
      obtain ⟨b1, b2⟩ := rd.shaped h2
      exact .inr (.inl ⟨_, _, a1, b1, a2, b2, by cases neg <;> exact hk0 _ g⟩)
    · obtain ⟨h1, h2, g⟩ := g
      obtain ⟨a1, a2⟩ := rx.shaped h1
      obtain ⟨b1, b2⟩ := rd.shaped h2
      exact .inl ⟨_, _, a1, b1, a2, b2, by cases neg <;> exact hk0 _ g⟩
    · exact g.elim
theorem cmpW_ok {o : COp} {a b : M} {v1 v2 : V} {fa fb : List Addr} {Q : VK} (ra : RM W F H a v1 fa) (rb : RM W F H b v2 fb) {Kb : Bool → Prop} (g : cmpW o a b Kb) (hk0 : ∀ k, Kb k → Q (.bl k) H) : rCmp W.K o v1 v2 H Q := by
  cases o with
  | eq =>
    obtain ⟨d, e1, g⟩ := pyW_ex g
    obtain ⟨e, e2, h1, h2, g⟩ := pyW_ex g
    obtain ⟨a1, a2⟩ := (ra.pyT e1).shaped h1
    obtain ⟨b1, b2⟩ := (rb.pyT e2).shaped h2
    exact ⟨_, _, a1, b1, a2, b2, hk0 _ g⟩
  | ne =>
    obtain ⟨d, e1, g⟩ := pyW_ex g
    obtain ⟨e, e2, h1, h2, g⟩ := pyW_ex g
    obtain ⟨a1, a2⟩ := (ra.pyT e1).shaped h1
    obtain ⟨b1, b2⟩ := (rb.pyT e2).shaped h2
    exact ⟨_, _, a1, b1, a2, b2, hk0 _ g⟩
  | isn =>
    simp only [cmpW] at g
    split at g
    · cases rb with
      | dat rb => cases rb; exact ⟨rfl, by rw [ra.non_iff]; exact hk0 _ g⟩
    · exact g.elim
  | notn =>
    simp only [cmpW] at g
    split at g
    · cases rb with
      | dat rb => cases rb; exact ⟨rfl, by rw [ra.non_iff]; exact hk0 _ g⟩
    · exact g.elim
  | isin =>
    obtain ⟨d, e1, g⟩ := pyW_ex g
    exact inW_ok (neg := false) rfl (ra.pyT e1) rb g hk0
  | notin =>
    obtain ⟨d, e1, g⟩ := pyW_ex g
    exact inW_ok (neg := true) rfl (ra.pyT e1) rb g fun k => hk0 (!k)
  | _ =>
    simp only [cmpW] at g
    split at g
    · cases ra with
      | dat ra => cases rb with
        | dat rb => cases ra; cases rb; exact ⟨_, _, rfl, rfl, hk0 _ g⟩
    · exact g.elim
/-- a value's truth -/
theorem truth_ok {m : M} {v : V} {fp : List Addr} {Kb : Bool → Prop} (q : RM W F H m v fp) (g : mTruthW m Kb) : ∃ k, TruV W.K v H k ∧ Kb k := by
  have lenE : ∀ {α β : Type} {xs : List α} {ys : List β}, xs.length = ys.length → (!xs.isEmpty) = !ys.isEmpty := fun {α β xs ys} h => by
    cases xs <;> cases ys <;> simp at h <;> rfl
  cases q with
  | dat r =>
    refine ⟨_, ?_, g⟩
    cases r with
    | none => rfl
    | bool => rfl
    | int => rfl
    | str ok ln => exact ⟨ln, by rw [Bool.eq_iff_iff]; simp [pTrue]⟩
    | list f h ln r => exact .inl ⟨_, .inl (.inl h), lenE r.length⟩
    | tuple h ln r => exact .inr (.inl ⟨_, h.sq, lenE r.length⟩)
    | dict f h ln r => exact .inr (.inr ⟨_, h, lenE r.length⟩)
  | sl h ln r => exact ⟨_, .inl ⟨_, .inl (.inl h), lenE r.length⟩, g⟩
  | lst h ln r => exact ⟨_, .inl ⟨_, .inl (.inl h), lenE r.length⟩, g⟩
  | tup f h ln r => exact ⟨_, .inr (.inl ⟨_, .inl (.inl h), lenE r.length⟩), g⟩
  | dic h ln r => exact ⟨_, .inr (.inr ⟨_, h, lenE r.length⟩), g⟩
  | _ => exact g.elim
end
end QL
end
section
set_option linter.all false
set_option maxRecDepth 100000
set_option maxHeartbeats 1000000
/-! SB5: runs as readings. -/
namespace QL
open PySem PySem.Spec PyProof.Rows L2

theorem PT.of {X : Cx} {e : Expr} {t t' : TT} (h : PT X e t) (i : ∀ σ H Q, t' σ H Q → t σ H Q) : PT X e t' := ⟨fun pins s σ H Q I q => h.run pins s σ H Q I (i σ H Q q)⟩
theorem PW.of {X : Cx} {e : Expr} {t t' : TT} (h : PW X e t) (i : ∀ σ H Q, t' σ H Q → t σ H Q) : PW X e t' := ⟨fun wh pins s σ H Q I q => h.run wh pins s σ H Q I (i σ H Q q)⟩
theorem PW.pt {X : Cx} {e : Expr} {t : TT} (h : PW X e t) : PT X e t := ⟨fun pins s σ H Q I q => h.run _ pins s σ H Q I q⟩
theorem PA.of {X : Cx} {es : List Expr} {t t' : TA} (h : PA X es t) (i : ∀ σ H Q, t' σ H Q → t σ H Q) : PA X es t' := ⟨fun pos pins s σ H Q I q => h.run pos pins s σ H Q I (i σ H Q q)⟩
theorem PO.of {X : Cx} {e : Option Expr} {t t' : TO} (h : PO X e t) (i : ∀ σ H Q, t' σ H Q → t σ H Q) : PO X e t' := ⟨fun pins s σ H Q I q => h.run pins s σ H Q I (i σ H Q q)⟩
theorem PI.of {X : Cx} {tg e : Expr} {t t' : TI} (h : PI X tg e t) (i : ∀ σ H Q, t' σ H Q → t σ H Q) : PI X tg e t' := ⟨fun pins s σ H Q I q => h.run pins s σ H Q I (i σ H Q q)⟩
theorem PS.of {X : Cx} {st : Stmt} {t t' : TS} (h : PS X st t) (i : ∀ D σ H, t' D σ H → t D σ H) : PS X st t' := ⟨fun pins s σ H D I q => h.run pins s σ H D I (i D σ H q)⟩
theorem PSs.of {X : Cx} {st : List Stmt} {t t' : TS} (h : PSs X st t) (i : ∀ D σ H, t' D σ H → t D σ H) : PSs X st t' := ⟨fun pins s σ H D I q => h.run pins s σ H D I (i D σ H q)⟩

section
variable (Γ : Ctx) (dp : Bool) (W : Wd) (E : List (Addr × Nat × Addr)) (Wx : WX)
/-- a run as a reading: J tells what has come -/
def tG {β γ : Type} (f : XP → Env → (β → Env → Prop) → Prop) (J : β → Wr → γ → List Addr → Prop) : L2.St → Hp → (γ → Hp → Prop) → Prop := fun σV H Q => ∃ r : Wr, r.H = H ∧ ER W E r ∧ Pre σV r.w ∧
  Runs W E Wx f σV r fun b r' => ∀ c fp, Nx W E r [] r'.σ r' fp → J b r' c fp → Q c r'.H
/-- several that have come -/
inductive RSs (W : Wd) (r : Wr) : List SV → List V → List Addr → Prop
  | nil : RSs W r [] [] []
  | cons {x : SV} {xs : List SV} {v : V} {vs : List V} {fp fq : List Addr} (q : RS W r v fp x) (t : RSs W r xs vs fq) : RSs W r (x :: xs) (v :: vs) (fq ++ fp)
def tT (e : QL.E) : TT := fun σV H Q => ∃ r : Wr, r.H = H ∧ ER W E r ∧ Pre σV r.w ∧ Runs W E Wx (evE Γ dp e) σV r fun sv r' => ∀ v fp, Nx W E r [] r'.σ r' fp → RS W r' v fp sv → ∃ k, truthW sv r'.σ (fun k' => k' = k) ∧ Q k r'.H
def tA (es : Es) : TA := tG W E Wx (evAs Γ dp es) fun svs r' vs fp => RSs W r' svs vs fp
def tP (e : EO) : TO := tG W E Wx (evP Γ dp e) fun o _ o' _ => o' = o
end
section
variable {Γ : Ctx} {dp : Bool} {W : Wd} {E : List (Addr × Nat × Addr)} {Wx : WX} {r r1 r2 r4 r5 r6 : Wr} {σV : L2.St} {H : Hp} {Q : VK}
theorem tE_G {e : QL.E} : tE Γ dp W E Wx e = tG W E Wx (evE Γ dp e) fun sv r' v fp => RS W r' v fp sv := rfl
theorem RSs.tr : ∀ {xs : List SV} {vs : List V} {fp : List Addr}, (∀ sv v fp, RS W r1 v fp sv → RS W r2 v fp sv) → RSs W r1 xs vs fp → RSs W r2 xs vs fp
  | _, _, _, _, .nil => .nil
  | _, _, _, f, .cons q t => .cons (f _ _ _ q) (RSs.tr f t)
theorem holdG {β γ : Type} {f : XP → Env → (β → Env → Prop) → Prop} {J : β → Wr → γ → List Addr → Prop} {x : SV} {σ1 : Env} {fp1 : List Addr} {v1 : V} {X : XP} {g : SV → β → Env → Prop} {Q : γ → Hp → Prop}
    (Jt : ∀ b r3 r4 c fq, (∀ sv v fp, RS W r3 v fp sv → RS W r4 v fp sv) → J b r3 c fq → J b r4 c fq)
    (n1 : Nx W E r [] σ1 r1 fp1) (q : RS W r1 v1 fp1 x) (hX : ∀ c m σ', X c m σ' → XEp W E Wx r σV c m σ') (pre : Pre σV r.w) (h : holdW x f X r1.σ g)
    (go : ∀ (x' : SV) (b : β) (c : γ) (r4 : Wr) (fx fy : List Addr), Nx W E r [] r4.σ r4 (fy ++ fx) → RS W r4 v1 fx x' → J b r4 c fy → g x' b r4.σ → Q c r4.H) : tG W E Wx f J σV r1.H Q := by
  refine holdR n1 q hX h fun r2 R eH er ⟨l, ew⟩ ⟨X', K, ev, hX', hK⟩ back => ?_
  refine ⟨r2, eH, er, by rw [ew, n1.w]; exact pre.app, X', K, ev, hX', fun b σ' hk r3 e c fp2 n3 q3 => ?_⟩
  obtain ⟨r4, x', fx, eH4, n4, qx, tr, hg⟩ := back b r3 (hK b σ' hk r3 e) fp2 n3
  exact eH4 ▸ go x' b c r4 fx fp2 n4 qx (Jt _ _ _ _ _ tr q3) hg
theorem Jt_E : ∀ (b : SV) (r3 r4 : Wr) (c : V) (fq : List Addr), (∀ sv v fp, RS W r3 v fp sv → RS W r4 v fp sv) → RS W r3 c fq b → RS W r4 c fq b := fun b _ _ c fq t q => t _ _ _ q
theorem Jt_A : ∀ (b : List SV) (r3 r4 : Wr) (c : List V) (fq : List Addr), (∀ sv v fp, RS W r3 v fp sv → RS W r4 v fp sv) → RSs W r3 b c fq → RSs W r4 b c fq := fun b _ _ c fq t q => q.tr t
theorem Jt_P {β : Type} : ∀ (b : β) (r3 r4 : Wr) (c : β) (_ : List Addr), (∀ sv v fp, RS W r3 v fp sv → RS W r4 v fp sv) → c = b → c = b := fun _ _ _ _ _ _ q => q
/-- the next part of a run from where nothing waits -/
theorem goOn {β γ : Type} {f : XP → Env → (β → Env → Prop) → Prop} {J : β → Wr → γ → List Addr → Prop} {σ1 : Env} {X : XP} {K : β → Env → Prop} {Q : γ → Hp → Prop} (n1 : Nx W E r [] σ1 r1 [])
    (hX : ∀ c m σ', X c m σ' → XEp W E Wx r σV c m σ') (pre : Pre σV r.w) (h : f X r1.σ K) (hK : ∀ b σ', K b σ' → ∀ r' : Wr, r'.σ = σ' → ∀ c fp, Nx W E r [] r'.σ r' fp → J b r' c fp → Q c r'.H) : tG W E Wx f J σV r1.H Q :=
  ⟨r1, rfl, n1.er, by rw [n1.w]; exact pre, X, K, h, fun c m σ' x => (hX c m σ' x).later n1 (by simp), fun b σ' k r' e c fp n j => hK b σ' k r' e c fp (n1.trans n) j⟩
/-- .. where something waits -/
theorem goWait {β γ : Type} {f : XP → Env → (β → Env → Prop) → Prop} {J : β → Wr → γ → List Addr → Prop} {σ1 : Env} {fp1 : List Addr} {X : XP} {K : β → Env → Prop} {Q : γ → Hp → Prop} (n1 : Nx W E r [] σ1 r1 fp1) (th : ∀ a ∈ fp1, r1.H a ≠ none)
    (hX : ∀ c m σ', X c m σ' → XEp W E Wx r σV c m σ') (pre : Pre σV r.w) (h : f X r1.σ K)
    (hK : ∀ b σ', K b σ' → ∀ r' : Wr, r'.σ = σ' → ∀ c fp, Nx W E r1 [] r'.σ r' fp → Nx W E r [] r'.σ r' (fp ++ fp1) → J b r' c fp → Q c r'.H) : tG W E Wx f J σV r1.H Q :=
  ⟨r1, rfl, n1.er, by rw [n1.w]; exact pre, X, K, h, fun c m σ' x => (hX c m σ' x).later n1 th, fun b σ' k r' e c fp n j => hK b σ' k r' e c fp n (n1.trans (n.wide n1.sep th)) j⟩

theorem nthW_in : ∀ {σ : Env} {i : Nat} {s : SV} {K : SV → Prop}, σ[i]? = some (some s) → K s → nthW σ i K
  | [], _, _, _, e, _ => by simp at e
  | none :: _, 0, _, _, e, _ => by simp at e
  | some s :: _, 0, _, _, e, h => by simp at e; subst e; exact h
  | x :: r, n + 1, s, K, e, h => by
    have : nthW r n K := nthW_in (by simpa using e) h
    cases x <;> exact this
theorem stepW_in {k : Nat} {m c : M} {K : M → Prop} (e : stepO k m = some c) (h : K c) : stepW k m K := by
  cases m with
  | sl ds => simp only [stepO, Option.map_eq_some_iff] at e; obtain ⟨d, e, rfl⟩ := e; exact ⟨d, e, h⟩
  | lst ms => exact ⟨c, e, h⟩
  | tup ms => exact ⟨c, e, h⟩
  | ins z cc ks ms =>
    cases z with
    | true => simp [stepO] at e
    | false =>
      simp only [stepO, Option.bind_eq_some_iff] at e
      obtain ⟨i, e1, e2⟩ := e
      simp only [stepW, e1, e2]
      exact h
  | _ => simp [stepO] at e
theorem atW_in : ∀ {p : List Nat} {m c : M} {K : M → Prop}, atO p m = some c → K c → atW p m K
  | [], m, c, K, e, h => by cases e; exact h
  | k :: p, m, c, K, e, h => by
    simp only [atO, Option.bind_eq_some_iff] at e
    obtain ⟨c1, e1, e2⟩ := e
    exact stepW_in e1 (atW_in e2 h)

/-! ### expressions -/
theorem getW_fn {σ : Env} {sv : SV} {A B : M → Prop} (h : getW σ sv A) (h' : getW σ sv B) : ∃ m, A m ∧ B m := by
  cases sv with
  | v m => exact ⟨m, h, h'⟩
  | al i p =>
    obtain ⟨s, e, h⟩ := nthW_ex h
    obtain ⟨s', e', h'⟩ := nthW_ex h'
    rw [e] at e'; cases e'
    cases s with
    | v m =>
      obtain ⟨c, e1, h⟩ := atW_ex h
      obtain ⟨c', e2, h'⟩ := atW_ex h'
      rw [e1] at e2; cases e2
      exact ⟨c, h, h'⟩
    | _ => exact h.elim
  | _ => exact h.elim
theorem mTruthW_fn {m : M} {A B : Bool → Prop} (h : mTruthW m A) (h' : mTruthW m B) : ∃ k, A k ∧ B k := by
  cases m <;> first | exact h.elim | exact ⟨_, h, h'⟩
theorem truthW_fn {σ : Env} {sv : SV} {A B : Bool → Prop} (h : truthW sv σ A) (h' : truthW sv σ B) : ∃ k, A k ∧ B k := by
  obtain ⟨m, a, b⟩ := getW_fn h h'
  exact mTruthW_fn a b
theorem truth_val {sv : SV} {v : V} {fp : List Addr} {Kb : Bool → Prop} (er : ER W E r1) (q : RS W r1 v fp sv) (s : Sep r1 fp) (g : truthW sv r1.σ Kb) : ∃ k, TruV W.K v r1.H k ∧ Kb k := by
  obtain ⟨m, fq, g, rm, _, _⟩ := getW_ex er q s g
  exact truth_ok rm g
theorem i_c {d : D} {v : V} (hd : ∀ F H, RD W.K F H d v) (h : tE Γ dp W E Wx (.c d) σV H Q) : tC v σV H Q := by
  obtain ⟨r, rfl, er, pre, X, K, ev, hX, hK⟩ := h
  exact hK _ _ ev r rfl v [] (.here er (.nil er)) (RM.dat (hd _ _))
theorem i_x {i : Nat} (hi : i < σV.length) (h : tE Γ dp W E Wx (.x i) σV H Q) : tVar i σV H Q := by
  obtain ⟨r, rfl, er, pre, X, K, ev, hX, hK⟩ := h
  obtain ⟨sv, v, k, hw, q⟩ := readW_ex er ev
  exact ⟨v, pre.2 i v hi hw, hK _ _ k r rfl v [] (.here er (.nil er)) q⟩
theorem mTruthW_is {m : M} {A : Bool → Prop} (h : mTruthW m A) : ∃ k, mTruthW m (fun k' => k' = k) ∧ A k := by
  cases m <;> first | exact h.elim | exact ⟨_, rfl, h⟩
theorem getW_imp {σ : Env} {sv : SV} {A : M → Prop} (h : getW σ sv A) : ∃ m, A m ∧ ∀ B : M → Prop, B m → getW σ sv B := by
  cases sv with
  | v m => exact ⟨m, h, fun B b => b⟩
  | al i p =>
    obtain ⟨s, e, h⟩ := nthW_ex h
    cases s with
    | v m =>
      obtain ⟨c, e1, h⟩ := atW_ex h
      exact ⟨c, h, fun B b => nthW_in e (atW_in e1 b)⟩
    | _ => exact h.elim
  | _ => exact h.elim
theorem truthW_is {σ : Env} {sv : SV} {A : Bool → Prop} (h : truthW sv σ A) : ∃ k, truthW sv σ (fun k' => k' = k) ∧ A k := by
  obtain ⟨m, g, f⟩ := getW_imp h
  obtain ⟨k, t, a⟩ := mTruthW_is g
  exact ⟨k, f _ t, a⟩
/-- the next part of a run -/
theorem goR {β : Type} {f : XP → Env → (β → Env → Prop) → Prop} {R : β → Wr → Prop} {σ1 : Env} {X : XP} {K : β → Env → Prop} (n1 : Nx W E r [] σ1 r1 [])
    (hX : ∀ c m σ', X c m σ' → XEp W E Wx r σV c m σ') (pre : Pre σV r.w) (h : f X r1.σ K) (hK : ∀ b σ', K b σ' → ∀ r' : Wr, r'.σ = σ' → R b r') : ER W E r1 ∧ Pre σV r1.w ∧ Runs W E Wx f σV r1 R :=
  ⟨n1.er, by rw [n1.w]; exact pre, X, K, h, fun c m σ' x => (hX c m σ' x).later n1 (by simp), hK⟩
/-- a test of a value -/
theorem i_test {e : QL.E} {Q : Bool → Hp → Prop} (h : tT Γ dp W E Wx e σV H Q) : tE Γ dp W E Wx e σV H fun x H' => ∃ k, TruV W.K x H' k ∧ Q k H' := by
  obtain ⟨r, rfl, er, pre, X, K, ev, hX, hK⟩ := h
  refine ⟨r, rfl, er, pre, X, _, ev, hX, fun sv σ' g r1 e v fp n q => ?_⟩
  subst e
  obtain ⟨k, g, qk⟩ := hK _ _ g r1 rfl v fp n q
  obtain ⟨k', t, rfl⟩ := truth_val n.er q n.sep g
  exact ⟨_, t, qk⟩
/-- a value by its test -/
theorem i_nt {a : QL.E} (h : tE Γ dp W E Wx (.nt a) σV H Q) : tNotT W.K (tE Γ dp W E Wx a) σV H Q := by
  obtain ⟨r, rfl, er, pre, X, K, ev, hX, hK⟩ := h
  refine ⟨r, rfl, er, pre, X, _, ev, hX, fun sv σ' g r1 e v fp n q => ?_⟩
  subst e
  obtain ⟨k, t, g⟩ := truth_val n.er q n.sep g
  exact ⟨k, t, Fin.dat (fun r' e v fp n' q' => hK _ _ g r' e v fp n' q') n .bool⟩
theorem bool_is {σ : Env} {b k : Bool} (h : truthW (.v (.dat (.bool b))) σ fun k' => k' = k) : b = k := h
theorem i_ntT {a : QL.E} {Q : Bool → Hp → Prop} (h : tT Γ dp W E Wx (.nt a) σV H Q) : tNot (tT Γ dp W E Wx a) σV H Q := by
  obtain ⟨r, rfl, er, pre, X, K, ev, hX, hK⟩ := h
  refine ⟨r, rfl, er, pre, X, _, ev, hX, fun sv σ' g r1 e v fp n q => ?_⟩
  subst e
  obtain ⟨k, t, g⟩ := truthW_is g
  obtain ⟨k', e, qk⟩ := hK _ _ g r1 rfl _ [] n.none (RM.dat .bool)
  have e := bool_is e
  subst e
  exact ⟨k, t, qk⟩
theorem condW_t {A B : Prop} (h : condW true A B) : A := h
theorem condW_f {A B : Prop} (h : condW false A B) : B := h
theorem i_and {a b : QL.E} (h : tE Γ dp W E Wx (.and a b) σV H Q) : tAndT W.K (tE Γ dp W E Wx a) (tE Γ dp W E Wx b) σV H Q := by
  obtain ⟨r, rfl, er, pre, X, K, ev, hX, hK⟩ := h
  refine ⟨r, rfl, er, pre, X, _, ev, hX, fun sv σ' g r1 e v fp n q => ?_⟩
  subst e
  obtain ⟨k, t, g⟩ := truth_val n.er q n.sep g
  refine ⟨k, t, ?_⟩
  cases k with
  | true => exact goOn n.none hX pre g hK
  | false => exact hK _ _ g r1 rfl v fp n q
theorem i_or {a b : QL.E} (h : tE Γ dp W E Wx (.or a b) σV H Q) : tOrT W.K (tE Γ dp W E Wx a) (tE Γ dp W E Wx b) σV H Q := by
  obtain ⟨r, rfl, er, pre, X, K, ev, hX, hK⟩ := h
  refine ⟨r, rfl, er, pre, X, _, ev, hX, fun sv σ' g r1 e v fp n q => ?_⟩
  subst e
  obtain ⟨k, t, g⟩ := truth_val n.er q n.sep g
  refine ⟨k, t, ?_⟩
  cases k with
  | false => exact goOn n.none hX pre g hK
  | true => exact hK _ _ g r1 rfl v fp n q
theorem i_andT {a b : QL.E} {Q : Bool → Hp → Prop} (h : tT Γ dp W E Wx (.and a b) σV H Q) : tAnd (tT Γ dp W E Wx a) (tT Γ dp W E Wx b) σV H Q := by
  obtain ⟨r, rfl, er, pre, X, K, ev, hX, hK⟩ := h
  refine ⟨r, rfl, er, pre, X, _, ev, hX, fun sv σ' g r1 e v fp n q => ?_⟩
  subst e
  obtain ⟨k, t, g⟩ := truthW_is g
  refine ⟨k, t, ?_⟩
  cases k with
  | true => exact ⟨r1, rfl, goR n.none hX pre g fun b σ' k r' e v fp n' q' => hK b σ' k r' e v fp (n.none.trans n') q'⟩
  | false =>
    obtain ⟨k', t', qk⟩ := hK _ _ g r1 rfl v fp n q
    obtain ⟨_, e1, e2⟩ := truthW_fn t t'
    rw [e1] at e2; subst e2; exact qk
theorem i_orT {a b : QL.E} {Q : Bool → Hp → Prop} (h : tT Γ dp W E Wx (.or a b) σV H Q) : tOr (tT Γ dp W E Wx a) (tT Γ dp W E Wx b) σV H Q := by
  obtain ⟨r, rfl, er, pre, X, K, ev, hX, hK⟩ := h
  refine ⟨r, rfl, er, pre, X, _, ev, hX, fun sv σ' g r1 e v fp n q => ?_⟩
  subst e
  obtain ⟨k, t, g⟩ := truthW_is g
  refine ⟨k, t, ?_⟩
  cases k with
  | false => exact ⟨r1, rfl, goR n.none hX pre g fun b σ' k r' e v fp n' q' => hK b σ' k r' e v fp (n.none.trans n') q'⟩
  | true =>
    obtain ⟨k', t', qk⟩ := hK _ _ g r1 rfl v fp n q
    obtain ⟨_, e1, e2⟩ := truthW_fn t t'
    rw [e1] at e2; subst e2; exact qk
/-- .. where the value is a bool -/
theorem i_testB {e : QL.E} {t : TE} (ht : ∀ Q', tE Γ dp W E Wx e σV H Q' → t σV H Q') (mono : ∀ Q1 Q2 : VK, t σV H Q1 → (∀ b H, Q1 (.bl b) H → Q2 (.bl b) H) → t σV H Q2) {Q : Bool → Hp → Prop} (h : tT Γ dp W E Wx e σV H Q) : tTest t σV H Q :=
  mono _ _ (ht _ (i_test h)) fun b H ⟨k, e, q⟩ => ⟨b, rfl, by have e : k = b := e; subst e; exact q⟩
theorem i_ife {t a b : QL.E} (h : tE Γ dp W E Wx (.ife t a b) σV H Q) : tIf (tT Γ dp W E Wx t) (tE Γ dp W E Wx a) (tE Γ dp W E Wx b) σV H Q := by
  obtain ⟨r, rfl, er, pre, X, K, ev, hX, hK⟩ := h
  refine ⟨r, rfl, er, pre, X, _, ev, hX, fun sv σ' g r1 e v fp n q => ?_⟩
  subst e
  obtain ⟨k, t, g⟩ := truthW_is g
  refine ⟨k, t, ?_⟩
  cases k with
  | true => exact goOn n.none hX pre g hK
  | false => exact goOn n.none hX pre g hK
theorem part_val {sv : SV} {v : V} {fp : List Addr} {K : Option Int → Prop} (er : ER W E r1) (q : RS W r1 v fp sv) (s : Sep r1 fp) (g : partW sv r1.σ K) : ∃ i, v = .int i ∧ K (some i) := by
  obtain ⟨m, fq, g, rm, _, _⟩ := getW_ex er q s g
  obtain ⟨d, e, g⟩ := pyW_ex g
  have rd := rm.pyT e
  split at g
  · cases rd; exact ⟨_, rfl, g⟩
  · exact g.elim
theorem i_neg {a : QL.E} (h : tE Γ dp W E Wx (.neg a) σV H Q) : tUn (rU fun i => .int (-i)) (tE Γ dp W E Wx a) σV H Q := by
  obtain ⟨r, rfl, er, pre, X, K, ev, hX, hK⟩ := h
  refine ⟨r, rfl, er, pre, X, _, ev, hX, fun sv σ' g r1 e v fp n q => ?_⟩
  subst e
  obtain ⟨i, rfl, g⟩ := part_val n.er q n.sep g
  exact ⟨i, rfl, Fin.dat (fun r' e v fp n' q' => hK _ _ g r' e v fp n' q') n .int⟩
/-- arguments -/
theorem i_anil {Q : List V → Hp → Prop} (h : tA Γ dp W E Wx .nil σV H Q) : tNil σV H Q := by
  obtain ⟨r, rfl, er, pre, X, K, ev, hX, hK⟩ := h
  exact hK _ _ ev r rfl [] [] (.here er (.nil er)) .nil
theorem i_acons {s : Bool} {e : QL.E} {es : Es} {Q : List V → Hp → Prop} (h : tA Γ dp W E Wx (.cons s e es) σV H Q) : tCons (tE Γ dp W E Wx e) (tA Γ dp W E Wx es) σV H Q := by
  obtain ⟨r, rfl, er, pre, X, K, ev, hX, hK⟩ := h
  refine ⟨r, rfl, er, pre, X, _, ev, hX, fun sv σ' g r1 e v fp n q => ?_⟩
  subst e
  refine holdG Jt_A n q hX pre g fun x' b c r4 fx fy n4 qx qs g => ?_
  exact hK _ _ g r4 rfl (v :: c) _ n4 (.cons qx qs)
/-- an end of a slice -/
theorem i_pnone {Q : Option Int → Hp → Prop} (h : tP Γ dp W E Wx .none σV H Q) : Q Option.none H := by
  obtain ⟨r, rfl, er, pre, X, K, ev, hX, hK⟩ := h
  exact hK _ _ ev r rfl _ [] (.here er (.nil er)) rfl
theorem i_psome {e : QL.E} {Q : Option Int → Hp → Prop} (h : tP Γ dp W E Wx (.some e) σV H Q) : tE Γ dp W E Wx e σV H fun x H1 => ∃ i, x = .int i ∧ Q (some i) H1 := by
  obtain ⟨r, rfl, er, pre, X, K, ev, hX, hK⟩ := h
  refine ⟨r, rfl, er, pre, X, _, ev, hX, fun sv σ' g r1 e v fp n q => ?_⟩
  subst e
  obtain ⟨i, rfl, g⟩ := part_val n.er q n.sep g
  exact ⟨i, rfl, hK _ _ g r1 rfl _ fp n rfl⟩
end
end QL
end
section
set_option linter.all false
set_option maxRecDepth 100000
set_option maxHeartbeats 1000000
/-! SB6: comparisons, displays, items, slices. -/
namespace QL
open PySem PySem.Spec PyProof.Rows L2

section
variable (Γ : Ctx) (dp : Bool) (W : Wd) (E : List (Addr × Nat × Addr)) (Wx : WX)
def tD (es : Es) : TA := tG W E Wx (evDs Γ dp es) fun ms r' vs fp => RMs W r'.F r'.H ms vs fp
/-- == of instances -/
def rOwn (o : COp) : R2 := fun v1 v2 H Q => ∃ (r r4 : Wr) (x y : SV) (fx fy : List Addr) (K : Bool → Env → Prop) (a b : M) (fa fb : List Addr), r4.H = H ∧ ER W E r ∧ Nx W E r [] r4.σ r4 (fy ++ fx) ∧ RS W r4 v1 fx x ∧ RS W r4 v2 fy y ∧
  isEqOp o = true ∧ (isIns a || isIns b) = true ∧ RM W r4.F r4.H a v1 fa ∧ RM W r4.F r4.H b v2 fb ∧
  (match isIns a with
    | true => ownEqW Γ o (clsOf a) x y r4.σ K
    | false => ownEqW Γ o (clsOf b) y x r4.σ K) ∧ ∀ k σ', K k σ' → Fin W E r Q (.v (.dat (.bool k))) σ'
end
section
variable {Γ : Ctx} {dp : Bool} {W : Wd} {E : List (Addr × Nat × Addr)} {Wx : WX} {r r1 r2 r4 r5 r6 : Wr} {σV : L2.St} {H : Hp} {Q : VK}
theorem rOwn_mono {o : COp} {x y : V} {H : Hp} {Q Q' : VK} (h : rOwn Γ W E o x y H Q) (m : ∀ b H, Q (.bl b) H → Q' (.bl b) H) : rOwn Γ W E o x y H Q' := by
  obtain ⟨r, r4, x, y, fx, fy, K, a, b, fa, fb, h1, h2, h3, h4, h5, h6, h7, h8, h9, h10, hK⟩ := h
  refine ⟨r, r4, x, y, fx, fy, K, a, b, fa, fb, h1, h2, h3, h4, h5, h6, h7, h8, h9, h10, fun k σ' g r' e v fp n q => ?_⟩
  have z := hK k σ' g r' e v fp n q
  cases q with
  | dat q => cases q; exact m _ _ z
theorem cmp_val {o : COp} {x y : SV} {v1 v2 : V} {fx fy : List Addr} {K : KS} (er : ER W E r) (n4 : Nx W E r [] r4.σ r4 (fy ++ fx)) (qx : RS W r4 v1 fx x) (qy : RS W r4 v2 fy y) (g : cmpSW Γ o x y r4.σ K) (hK : ∀ sv σ', K sv σ' → Fin W E r Q sv σ') :
    rCmp W.K o v1 v2 r4.H Q ∨ rOwn Γ W E o v1 v2 r4.H Q := by
  obtain ⟨a, fa, g, ra, _, _⟩ := getW_ex n4.er qx n4.sep.right g
  obtain ⟨b, fb, g, rb, _, _⟩ := getW_ex n4.er qy n4.sep.left g
  split at g
  · rename_i z
    rw [Bool.and_eq_true] at z
    refine .inr ⟨r, r4, x, y, fx, fy, fun k σ' => K (.v (.dat (.bool k))) σ', a, b, fa, fb, rfl, er, n4, qx, qy, z.1, z.2, ra, rb, g, fun k σ' k' => hK _ _ k'⟩
  · exact .inl (cmpW_ok ra rb g fun k g => (hK _ _ g).dat n4 .bool)
theorem i_cmp {o : COp} {a b : QL.E} (h : tE Γ dp W E Wx (.cmp o a b) σV H Q) : tOp (fun x y H Q => rCmp W.K o x y H Q ∨ rOwn Γ W E o x y H Q) (tE Γ dp W E Wx a) (tE Γ dp W E Wx b) σV H Q := by
  obtain ⟨r, rfl, er, pre, X, K, ev, hX, hK⟩ := h
  refine ⟨r, rfl, er, pre, X, _, ev, hX, fun x σ1 g r1 e v1 fp1 n1 q1 => ?_⟩
  subst e
  exact holdE n1 q1 hX pre g fun x' y v2 r4 fx fy n4 qx qy g => cmp_val er n4 qx qy g fun sv σ' k => hK sv σ' k
theorem i_cmpT {o : COp} {a b : QL.E} {Q : Bool → Hp → Prop} (h : tT Γ dp W E Wx (.cmp o a b) σV H Q) : tTest (tOp (fun x y H Q => rCmp W.K o x y H Q ∨ rOwn Γ W E o x y H Q) (tE Γ dp W E Wx a) (tE Γ dp W E Wx b)) σV H Q := by
  have h := i_cmp (i_test h)
  obtain ⟨r, rfl, er, pre, X, K, ev, hX, hK⟩ := h
  refine ⟨r, rfl, er, pre, X, K, ev, hX, fun x σ1 g r1 e v1 fp1 n1 q1 => ?_⟩
  obtain ⟨r', e', er', pre', X', K', ev', hX', hK'⟩ := hK x σ1 g r1 e v1 fp1 n1 q1
  refine ⟨r', e', er', pre', X', K', ev', hX', fun y σ2 g r2 e v2 fp2 n2 q2 => ?_⟩
  rcases hK' y σ2 g r2 e v2 fp2 n2 q2 with z | z
  · exact .inl (rCmp_mono z fun b H ⟨k, e, q⟩ => ⟨b, rfl, by have e : k = b := e; subst e; exact q⟩)
  · exact .inr (rOwn_mono z fun b H ⟨k, e, q⟩ => ⟨b, rfl, by have e : k = b := e; subst e; exact q⟩)
theorem i_chain {o o' : COp} {a b c : QL.E} (h : tE Γ dp W E Wx (.chain o o' a b c) σV H Q) : tChain (rCmp W.K o) (rCmp W.K o') (tE Γ dp W E Wx a) (tE Γ dp W E Wx b) (tE Γ dp W E Wx c) σV H Q := by
  obtain ⟨r, rfl, er, pre, X, K, ev, hX, hK⟩ := h
  refine ⟨r, rfl, er, pre, X, _, ev, hX, fun x σ1 g r1 e v1 fp1 n1 q1 => ?_⟩
  subst e
  refine holdE n1 q1 hX pre g fun x' y v2 r4 fx fy n4 qx qy g => ?_
  obtain ⟨m, fa, g, ra, _, _⟩ := getW_ex n4.er qx n4.sep.right g
  obtain ⟨m', fb, g, rb, _, _⟩ := getW_ex n4.er qy n4.sep.left g
  refine cmpW_ok ra rb g fun k g => ⟨k, rfl, ?_⟩
  cases k with
  | false => exact Fin.dat (hK _ _ g) n4 .bool
  | true =>
    show tE Γ dp W E Wx c σV r4.H fun w' H4 => rCmp W.K o' v2 w' H4 Q
    refine holdE (n4.less (List.sublist_append_left _ _)) qy hX pre g fun y' z v3 r6 fy' fz n6 qy' qz g => ?_
    obtain ⟨m, fa, g, ra, _, _⟩ := getW_ex n6.er qy' n6.sep.right g
    obtain ⟨m', fb, g, rb, _, _⟩ := getW_ex n6.er qz n6.sep.left g
    exact cmpW_ok ra rb g fun k g => Fin.dat (hK _ _ g) n6 .bool
theorem i_chainT {o o' : COp} {a b c : QL.E} {Q : Bool → Hp → Prop} (h : tT Γ dp W E Wx (.chain o o' a b c) σV H Q) : tTest (tChain (rCmp W.K o) (rCmp W.K o') (tE Γ dp W E Wx a) (tE Γ dp W E Wx b) (tE Γ dp W E Wx c)) σV H Q := by
  have h := i_chain (i_test h)
  obtain ⟨r, rfl, er, pre, X, K, ev, hX, hK⟩ := h
  refine ⟨r, rfl, er, pre, X, K, ev, hX, fun x σ1 g r1 e v1 fp1 n1 q1 => ?_⟩
  obtain ⟨r', e', er', pre', X', K', ev', hX', hK'⟩ := hK x σ1 g r1 e v1 fp1 n1 q1
  refine ⟨r', e', er', pre', X', K', ev', hX', fun y σ2 g r2 e v2 fp2 n2 q2 => ?_⟩
  refine rCmp_mono (hK' y σ2 g r2 e v2 fp2 n2 q2) fun k H ⟨k', e', q⟩ => ⟨k', e', ?_⟩
  cases k' with
  | false => obtain ⟨k2, e2, q⟩ := q; have e2 : k2 = false := e2; subst e2; exact ⟨false, rfl, q⟩
  | true =>
    obtain ⟨r', e', er', pre', X', K', ev', hX', hK'⟩ := q
    exact ⟨r', e', er', pre', X', K', ev', hX', fun y σ2 g r2 e v2 fp2 n2 q2 => rCmp_mono (hK' y σ2 g r2 e v2 fp2 n2 q2) fun b H ⟨k, e, q⟩ => ⟨b, rfl, by have e : k = b := e; subst e; exact q⟩⟩

/-! ### displays -/
theorem Nx.keepDs {σ2 : Env} {fq : List Addr} {ds : List D} {vs : List V} (er : ER W E r1) (n : Nx W E r1 [] σ2 r2 fq) (q : RDs W.K r1.F r1.H ds vs) : RDs W.K r2.F r2.H ds vs :=
  q.keep n.st.f fun a o f e => n.st.k a o e fun z => er.nf a (by simpa using z) f
theorem i_dnil {Q : List V → Hp → Prop} (h : tD Γ dp W E Wx .nil σV H Q) : tNil σV H Q := by
  obtain ⟨r, rfl, er, pre, X, K, ev, hX, hK⟩ := h
  exact hK _ _ ev r rfl [] [] (.here er (.nil er)) .nil
theorem i_dcons {e : QL.E} {es : Es} {Q : List V → Hp → Prop} (h : tD Γ dp W E Wx (.cons false e es) σV H Q) : tCons (tE Γ dp W E Wx e) (tD Γ dp W E Wx es) σV H Q := by
  obtain ⟨r, rfl, er, pre, X, K, ev, hX, hK⟩ := h
  refine ⟨r, rfl, er, pre, X, _, ev, hX, fun sv σ' g r1 e v fp n q => ?_⟩
  subst e
  obtain ⟨r2, m, fq, n2, g, rm, eH⟩ := putW_ex n.er q n.sep g
  rw [← eH]
  refine goWait (n.trans n2) rm.there hX pre g fun ms σ' k r3 e vs fp n3 n3' j => ?_
  exact hK _ _ k r3 e (v :: vs) (fq ++ fp) n3'.swap (.cons (Nx.waits n2.er n2.sep n3 rm) j)
theorem RMs.ofDs {F : Addr → Prop} {H : Hp} : ∀ {ds : List D} {vs : List V}, RDs W.K F H ds vs → RMs W F H (ds.map .dat) vs []
  | _, _, .nil => .nil
  | _, _, .cons r t => RMs.cons (fp := []) (fq := []) (.dat r) (RMs.ofDs t)
theorem RMs.append {F : Addr → Prop} {H : Hp} : ∀ {ms ns : List M} {vs us : List V} {fp fq : List Addr}, RMs W F H ms vs fp → RMs W F H ns us fq → RMs W F H (ms ++ ns) (vs ++ us) (fp ++ fq)
  | _, _, _, _, _, _, .nil, s => s
  | _, _, _, _, _, _, .cons r t, s => by rw [List.append_assoc]; exact .cons r (RMs.append t s)
theorem seqW_ex {F : Addr → Prop} {H : Hp} {m : M} {v : V} {fp : List Addr} {K : List D → Prop} (q : RM W F H m v fp) (g : seqW m K) : ∃ ds p vs, K ds ∧ v = .ref p ∧ (SqT W.K H p vs ∨ SqL W.K H p vs) ∧ RDs W.K F H ds vs ∧ ds.length ≤ sizeLine := by
  simp only [seqW] at g
  split at g
  · rename_i z
    rw [Bool.or_eq_true] at z
    rcases z with z | z
    · obtain ⟨ds, p, vs, g, e, h, r, ln⟩ := isList_ex q z g
      exact ⟨ds, p, vs, g, e, .inr (.inl (.inl h)), r, ln⟩
    · obtain ⟨ds, p, vs, g, e, h, r, ln⟩ := isTup_ex q z g
      exact ⟨ds, p, vs, g, e, .inl h.sq, r, ln⟩
  · exact g.elim
theorem i_dstar {e : QL.E} {es : Es} {Q : List V → Hp → Prop} (h : tD Γ dp W E Wx (.cons true e es) σV H Q) : StX.tStar W.K (tE Γ dp W E Wx e) (tD Γ dp W E Wx es) σV H Q := by
  obtain ⟨r, rfl, er, pre, X, K, ev, hX, hK⟩ := h
  refine ⟨r, rfl, er, pre, X, _, ev, hX, fun sv σ' g r1 e v fp n q => ?_⟩
  subst e
  obtain ⟨r2, m, fq, fn, n2, g, rm, _, _, eH⟩ := settleSW_ex n.er q n.sep g
  obtain ⟨ds, p, us, g, rfl, hs, rd, ln⟩ := seqW_ex rm g
  rw [← eH]
  refine ⟨p, us, rfl, hs, ?_⟩
  refine goWait (n.trans n2).none (by simp) hX pre g fun ms σ' k r3 e vs fp n3 n3' j => ?_
  rw [List.append_nil] at n3'
  exact hK _ _ k r3 e (us ++ vs) fp n3' (by simpa using (RMs.ofDs (n3.keepDs n2.er rd)).append j)
theorem roomW_ex {ms : List M} {K : Prop} (h : roomW ms K) : ms.length ≤ sizeLine ∧ K := by
  unfold roomW at h
  cases e : Nat.ble ms.length 16777216 with
  | true => rw [e] at h; exact ⟨by rw [← sizeL]; exact Nat.le_of_ble_eq_true e, h⟩
  | false => rw [e] at h; exact h.elim
theorem i_tup {es : Es} (h : tE Γ dp W E Wx (.tup es) σV H Q) : tTup (tD Γ dp W E Wx es) σV H Q := by
  obtain ⟨r, rfl, er, pre, X, K, ev, hX, hK⟩ := h
  refine ⟨r, rfl, er, pre, X, _, ev, hX, fun ms σ' g r1 e vs fp n q => ?_⟩
  subst e
  obtain ⟨ln, g⟩ := roomW_ex g
  exact ⟨by rw [← q.length]; exact ln, fun p hp => Fin.newT (fun r' e v fp n' q' => hK _ _ g r' e v fp n' q') n q ln hp⟩
theorem i_lst {es : Es} (h : tE Γ dp W E Wx (.lst es) σV H Q) : tLst (tD Γ dp W E Wx es) σV H Q := by
  obtain ⟨r, rfl, er, pre, X, K, ev, hX, hK⟩ := h
  refine ⟨r, rfl, er, pre, X, _, ev, hX, fun ms σ' g r1 e vs fp n q => ?_⟩
  subst e
  obtain ⟨ln, g⟩ := roomW_ex g
  exact ⟨by rw [← q.length]; exact ln, fun p hp => Fin.newL (fun r' e v fp n' q' => hK _ _ g r' e v fp n' q') n q ln hp⟩
end
end QL
end
section
set_option linter.all false
set_option maxRecDepth 100000
set_option maxHeartbeats 1000000
/-! SB7: parts of things: items, slices, fields. -/
namespace QL
open PySem PySem.Spec PyProof.Rows L2

theorem atO_app {q : List Nat} : ∀ {p : List Nat} {m : M}, atO (p ++ q) m = (atO p m).bind (atO q)
  | [], m => rfl
  | k :: p, m => by
    show (stepO k m).bind (atO (p ++ q)) = ((stepO k m).bind (atO p)).bind (atO q)
    cases stepO k m with
    | none => rfl
    | some c => exact atO_app (p := p)
section
variable {Γ : Ctx} {dp : Bool} {W : Wd} {E : List (Addr × Nat × Addr)} {Wx : WX} {r r1 r2 r4 r5 r6 : Wr} {σV : L2.St} {H : Hp} {Q : VK}
theorem RFs.get {F : Addr → Prop} {k : Nat} {c : M} : ∀ {ks : List Nat} {ms : List M} {fs : List (Str × V)} {fp : List Addr} {i : Nat}, ks.Nodup → RFs W F H ks ms fs fp → ks[i]? = some k → ms[i]? = some c → ∃ u fq rest, fs.lookup (W.fld k) = some u ∧ RM W F H c u fq ∧ fp.Perm (rest ++ fq) := fun nd r e e2 => by
  obtain ⟨u, fq, rest, h1, h2, h3, _⟩ := r.part nd e e2
  exact ⟨u, fq, rest, h1, h2, h3⟩
/-- where a part stands -/
def Part (W : Wd) (H : Hp) (m : M) (v : V) (k : Nat) (u : V) : Prop := ChildV W H v k u ∨ ((∃ d, m = .dat d) ∧ ∃ a vs, v = .ref a ∧ SqT W.K H a vs ∧ vs[k]? = some u)
/-- one step down, of anything -/
theorem childW_ex {F : Addr → Prop} {m : M} {v : V} {fp : List Addr} {k : Nat} {K : M → Prop} (q : RM W F H m v fp) (g : childW k m K) :
    ∃ c u fq rest, K c ∧ RM W F H c u fq ∧ fp.Perm (rest ++ fq) ∧ Part W H m v k u := by
  cases q with
  | dat r =>
    cases r with
    | list f h ln r =>
      obtain ⟨d, e, g⟩ := g
      obtain ⟨u, h1, h2⟩ := r.get e
      exact ⟨_, u, [], [], g, .dat h2, by simp, .inl ⟨_, _, rfl, h, h1⟩⟩
    | tuple h ln r =>
      obtain ⟨d, e, g⟩ := g
      obtain ⟨u, h1, h2⟩ := r.get e
      exact ⟨_, u, [], [], g, .dat h2, by simp, .inr ⟨⟨_, rfl⟩, _, _, rfl, h.sq, h1⟩⟩
    | _ => exact g.elim
  | @sl a vs ds h ln r =>
    obtain ⟨d, e, g⟩ := g
    obtain ⟨u, h1, h2⟩ := r.get e
    exact ⟨_, u, [], [a], g, .dat h2, by simp, .inl ⟨_, _, rfl, h, h1⟩⟩
  | @lst a vs ms fp h ln r =>
    obtain ⟨m, e, g⟩ := g
    obtain ⟨u, fq, rest, h1, h2, h3, _⟩ := r.part e
    exact ⟨_, u, fq, a :: rest, g, h2, List.Perm.cons a h3, .inl ⟨_, _, rfl, h, h1⟩⟩
  | tup f h ln r =>
    obtain ⟨m, e, g⟩ := g
    obtain ⟨u, fq, rest, h1, h2, h3, _⟩ := r.part e
    exact ⟨_, u, fq, rest, g, h2, h3, .inl ⟨_, _, rfl, h, h1⟩⟩
  | @ins a dx C c ks fs ms fp hc h n r =>
    simp only [childW] at g
    split at g
    · rename_i i e
      split at g
      · rename_i m e2
        obtain ⟨u, fq, rest, h1, h2, h3⟩ := r.get n (ixOf_get e) e2
        exact ⟨_, u, fq, a :: rest, g, h2, List.Perm.cons a h3, .inl ⟨_, _, rfl, h, h1⟩⟩
      · exact g.elim
    · exact g.elim
  | insF hc f h n z r =>
    simp only [childW] at g
    split at g
    · rename_i i e
      split at g
      · rename_i m e2
        obtain ⟨u, fq, rest, h1, h2, h3⟩ := r.get n (ixOf_get e) e2
        exact ⟨_, u, fq, rest, g, h2, h3, .inl ⟨_, _, rfl, h, h1⟩⟩
      · exact g.elim
    · exact g.elim
  | _ => exact g.elim
theorem getW_is {σ : Env} {sv : SV} {A : M → Prop} (h : getW σ sv A) : ∃ m, getW σ sv (fun m' => m' = m) ∧ A m := by
  obtain ⟨m, g, f⟩ := getW_imp h
  exact ⟨m, f _ rfl, g⟩
theorem childSW_ex (h : ER W E r4) {sv : SV} {v : V} {fp : List Addr} {k : Nat} {K : SV → Prop} (q : RS W r4 v fp sv) (s : Sep r4 fp) {m0 : M} (gm : getW r4.σ sv fun m' => m' = m0) (g : childSW sv k r4.σ K) :
    ∃ c u fq rest, K c ∧ RS W r4 u fq c ∧ fp.Perm (rest ++ fq) ∧ Part W r4.H m0 v k u := by
  cases sv with
  | v m =>
    obtain ⟨c, u, fq, rest, g, rm, pm, pt⟩ := childW_ex q g
    have gm : m = m0 := gm
    subst gm
    exact ⟨.v c, u, fq, rest, g, rm, pm, pt⟩
  | al i p =>
    obtain ⟨rfl, m, v0, c, e1, e2, e3, w⟩ := q
    obtain ⟨s', e, g0⟩ := nthW_ex g
    rw [e1] at e; cases e
    obtain ⟨c', e4, _⟩ := atW_ex g0
    have e5 := e4
    rw [atO_app, e3] at e5
    have e5 : (stepO k c).bind (atO []) = some c' := e5
    have e6 : stepO k c = some c' := by
      cases z : stepO k c with
      | none => rw [z] at e5; cases e5
      | some y => rw [z] at e5; exact e5
    obtain ⟨v1, fp0, hw, hf, rm0⟩ := h.slV e1
    rw [e2] at hw; cases hw
    obtain ⟨u1, f1, rest1, w1, rc, _, _⟩ := rm0.path e3
    cases w.inj w1
    obtain ⟨u, f2, rest2, ch, rc2, _, _⟩ := rc.step e6
    have q2 : RS W r4 u [] (.al i (p ++ [k])) := ⟨rfl, m, v0, c', e1, e2, e4, w.app ⟨u, ch, rfl⟩⟩
    obtain ⟨sv', k', q'⟩ := normW_ex h q2 g
    exact ⟨sv', u, [], [], k', q', by simp, .inl ch⟩
  | _ => exact g.elim

/-! ### x[i] -/
def rIxA (K : PySem.W.Frag) : R2 := fun x y H Q => rIx K x y H Q ∨ ∃ a v, x = .ref a ∧ DGet H a y (some v) ∧ Q v H
theorem ix_any {X : Cx} (hu : X.A.units + 65 < cLine) : IxR X (rIxA X.K) := by
  intro value slice pins s σ H x y v u Q I rx ry h hs
  rcases h with h | ⟨a, z, rfl, g, q⟩
  · exact ix_seq value slice pins s σ H x y v u Q I rx ry h hs
  · obtain rfl : v = Value.ref a := rx
    exact tail_any (dict_typeIs I g) PySem.F.slot_dict_getitem.lookup (d_getItem (by omega) I g ry fun w' s3 I3 rw' => ⟨z, H, I3, rw', q⟩) hs
theorem atI_len {α β : Type} {xs : List α} {ys : List β} {i : Int} {a : α} (h : L2.atI xs i = some a) (hl : xs.length = ys.length) : ∃ j, L2.ixN ys.length i = some j ∧ xs[j]? = some a := by
  unfold L2.atI at h
  rw [Option.bind_eq_some_iff] at h
  obtain ⟨j, h1, h2⟩ := h
  exact ⟨j, by rw [← hl]; exact h1, h2⟩
theorem atI_mk {α : Type} {xs : List α} {i : Int} {j : Nat} {a : α} (h : L2.ixN xs.length i = some j) (h2 : xs[j]? = some a) : L2.atI xs i = some a := by
  unfold L2.atI
  rw [h]; exact h2
theorem RDs.atI {K : PySem.W.Frag} {F : Addr → Prop} {ds : List D} {vs : List V} {i : Int} {d : D} (r : RDs K F H ds vs) (h : L2.atI ds i = some d) : ∃ v, L2.atI vs i = some v ∧ RD K F H d v := by
  obtain ⟨j, h1, h2⟩ := atI_len (ys := vs) h r.length
  obtain ⟨v, h3, h4⟩ := r.get h2
  exact ⟨v, atI_mk h1 h3, h4⟩
theorem atI_ints {is : List Int} {k i : Int} (h : L2.atI is k = some i) : L2.atI (is.map V.int) k = some (.int i) := by
  obtain ⟨j, h1, h2⟩ := atI_len (ys := is.map V.int) h (by simp)
  exact atI_mk h1 (by rw [List.getElem?_map, h2]; rfl)
/-- an item of what is no instance -/
theorem ixW_ok {x : SV} {v1 v2 : V} {fx fz : List Addr} {m : M} {fm : List Addr} {d : D} {K : SV → Prop} (n4 : Nx W E r [] r4.σ r4 fz) (sub : fx.Sublist fz) (q : RS W r4 v1 fx x) (s : Sep r4 fx) (gm : getW r4.σ x fun m' => m' = m) (rm : RM W r4.F r4.H m v1 fm) (rd : RD W.K (fun _ => True) r4.H d v2)
    (g : ixW m d (fun k => childSW x k r4.σ K) fun d => K (.v (.dat d))) (hK : ∀ sv, K sv → Fin W E r Q sv r4.σ) : rIxA W.K v1 v2 r4.H Q := by
  unfold ixW at g
  split at g
  · obtain ⟨c, e, g⟩ := g
    cases rd
    cases rm with
    | dat rm => cases rm with
      | str ok ln =>
        refine .inl (.inr (.inr ⟨_, _, c, rfl, rfl, ln, e, (hK _ g).dat n4 (.str ?_ (by show 1 ≤ sizeLine; decide))⟩))
        obtain ⟨j, _, h2, _⟩ := atI_get e
        have hm := List.mem_of_getElem? h2
        unfold PyData.strOk at ok ⊢
        rw [Array.all_eq_true_iff_forall_mem] at ok ⊢
        intro y hy
        simp at hy
        subst hy
        exact ok _ (by simpa using hm)
  · obtain ⟨hk, v, e, g⟩ := g
    cases rm with
    | dic h ln r =>
      obtain ⟨o, dg, ro⟩ := dget_of h r rd hk
      rw [e] at ro
      cases ro with
      | some rv => exact .inr ⟨_, _, rfl, dg, (hK _ g).dat n4 rv⟩
  · obtain ⟨hk, v, e, g⟩ := g
    cases rm with
    | dat rm => cases rm with
      | dict f h ln r =>
        obtain ⟨o, dg, ro⟩ := dget_of h r rd hk
        rw [e] at ro
        cases ro with
        | some rv => exact .inr ⟨_, _, rfl, dg, (hK _ g).dat n4 rv⟩
  · obtain ⟨v, e, g⟩ := g
    cases rd
    cases rm with
    | dat rm => cases rm with
      | list f h ln r =>
        obtain ⟨u, e1, ru⟩ := r.atI e
        exact .inl (.inl ⟨_, _, _, u, rfl, rfl, .inl (.inl h), e1, (hK _ g).dat n4 ru⟩)
  · obtain ⟨v, e, g⟩ := g
    cases rd
    cases rm with
    | dat rm => cases rm with
      | tuple h ln r =>
        obtain ⟨u, e1, ru⟩ := r.atI e
        exact .inl (.inr (.inl ⟨_, _, _, u, rfl, rfl, h.sq, e1, (hK _ g).dat n4 ru⟩))
  · obtain ⟨v, e, g⟩ := g
    cases rd
    cases rm with
    | sl h ln r =>
      obtain ⟨u, e1, ru⟩ := r.atI e
      exact .inl (.inl ⟨_, _, _, u, rfl, rfl, .inl (.inl h), e1, (hK _ g).dat n4 ru⟩)
  · obtain ⟨i, e, g⟩ := g
    cases rd
    cases rm with
    | scr f h => exact .inl (.inl ⟨_, _, _, .int i, rfl, rfl, .inl (.inr ⟨_, h⟩), atI_ints e, (hK _ g).dat n4 .int⟩)
  · obtain ⟨j, e, g⟩ := g
    cases rd
    obtain ⟨c, u, fq, rest, g, qc, pm, pt⟩ := childSW_ex n4.er q s gm g
    have nc : Nx W E r [] r4.σ r4 fq := ((n4.less sub).perm pm).less (List.sublist_append_right _ _)
    cases rm with
    | @lst a vs _ _ h ln rs =>
      rcases pt with ⟨a', o, ea, ho, e'⟩ | ⟨⟨d, z⟩, _⟩
      · cases ea
        rw [h] at ho; cases ho
        exact .inl (.inl ⟨_, vs, _, u, rfl, rfl, .inl (.inl h), atI_mk (by rw [← rs.length]; exact e) e', hK _ g r4 rfl u fq nc qc⟩)
      · cases z
  · obtain ⟨j, e, g⟩ := g
    cases rd
    obtain ⟨c, u, fq, rest, g, qc, pm, pt⟩ := childSW_ex n4.er q s gm g
    have nc : Nx W E r [] r4.σ r4 fq := ((n4.less sub).perm pm).less (List.sublist_append_right _ _)
    cases rm with
    | @tup a vs _ _ f h ln rs =>
      rcases pt with ⟨a', o, ea, ho, e'⟩ | ⟨⟨d, z⟩, _⟩
      · cases ea
        rw [h] at ho; cases ho
        exact .inl (.inr (.inl ⟨_, vs, _, u, rfl, rfl, .inl (.inl h), atI_mk (by rw [← rs.length]; exact e) e', hK _ g r4 rfl u fq nc qc⟩))
      · cases z
  · exact g.elim
end
end QL
end
section
set_option linter.all false
set_option maxRecDepth 100000
set_option maxHeartbeats 1000000
/-! SB8: a call: the arguments leave their slots, and come back. -/
namespace QL
open PySem PySem.Spec PyProof.Rows L2

/-- things at values, each with what it owns -/
inductive RL (W : Wd) (F : Addr → Prop) (H : Hp) : List M → List V → List (List Addr) → Prop
  | nil : RL W F H [] [] []
  | cons {m : M} {v : V} {fp : List Addr} {ms : List M} {vs : List V} {fps : List (List Addr)} (r : RM W F H m v fp) (t : RL W F H ms vs fps) : RL W F H (m :: ms) (v :: vs) (fp :: fps)
/-- a call's result -/
def RC (W : Wd) (F : Addr → Prop) (H : Hp) (outs : List M) (vs : List V) (v : V) (fp : List Addr) : SV → Prop
  | .v m => RM W F H m v fp
  | .al j p => fp = [] ∧ ∃ o v0 c, outs[j]? = some o ∧ vs[j]? = some v0 ∧ atO p o = some c ∧ WalkV W H v0 p v
  | _ => False
/-- behind a call -/
structure Aft (F : Addr → Prop) (H : Hp) (A : List Addr) (F' : Addr → Prop) (H' : Hp) (B : List Addr) : Prop where
  st : Stp F H A F' H' B
  nd : B.Nodup
  nf : ∀ a ∈ B, ¬ F' a
  df : ∀ a, F' a → H' a ≠ none
/-- what a def promises: a run of it as the small language tells -/
def spD (W : Wd) (g : List M → CK → CX → Prop) : Sp := fun vs H Q Ex => ∃ (F : Addr → Prop) (ms : List M) (fps : List (List Addr)) (K : CK) (X : CX),
  (∀ a, F a → H a ≠ none) ∧ RL W F H ms vs fps ∧ fps.flatten.Nodup ∧ (∀ a ∈ fps.flatten, ¬ F a) ∧ g ms K X ∧
  (∀ sv outs, K sv outs → ∀ (F' : Addr → Prop) (H' : Hp) (fos : List (List Addr)) (v : V) (fp : List Addr), Aft F H fps.flatten F' H' (fos.flatten ++ fp) → RL W F' H' outs vs fos → RC W F' H' outs vs v fp sv → Q v H') ∧
  (∀ c m outs, X c m outs → ∀ (F' : Addr → Prop) (H' : Hp) (fos : List (List Addr)) (d : Addr) (pv : V) (fp : List Addr), Aft F H fps.flatten F' H' (fos.flatten ++ fp) → RL W F' H' outs vs fos → F' d → H' d = some (.xd [(W.fld f_value, pv)]) → RM W F' H' m pv fp →
    ∀ C, W.cls c = some C → Ex (.ref C) (some d) H')

section
variable {W : Wd} {E : List (Addr × Nat × Addr)} {r r1 r2 r4 r5 r6 : Wr}
theorem RL.there {F : Addr → Prop} {H : Hp} : ∀ {ms : List M} {vs : List V} {fps : List (List Addr)}, RL W F H ms vs fps → ∀ a ∈ fps.flatten, H a ≠ none
  | _, _, _, .nil, a, ha => by simp at ha
  | _, _, _, .cons r t, a, ha => by
    rw [List.flatten_cons] at ha
    rcases List.mem_append.mp ha with z | z
    · exact r.there a z
    · exact RL.there t a z
/-- a moment past a call that does not touch it -/
theorem ER.past (h : ER W E r) {F' : Addr → Prop} {H' : Hp} {A B : List Addr} (s : Stp r.F r.H A F' H' B) (ap : ∀ a ∈ r.A, a ∉ A) (fA : ∀ a, r.F a → a ∉ A) (df : ∀ a, F' a → H' a ≠ none) : ER W E { r with F := F', H := H' } := by
  have kF : ∀ a o, r.F a → r.H a = some o → H' a = some o := fun a o f e => s.k a o e (fA a f)
  have kA : ∀ a ∈ r.A, ∀ o, r.H a = some o → H' a = some o := fun a ha o e => s.k a o e (ap a ha)
  refine ⟨h.lw, h.lf, fun i s' e => ?_, h.nd, s.notF h.da ap h.nf, df, fun a ha => ?_⟩
  · obtain ⟨v, fp, h1, h2, q⟩ := h.sl i s' e
    refine ⟨v, fp, h1, h2, q.keep (r' := { r with F := F', H := H' }) h s.f kF (fun a ha o e => kA a (mem_flat h2 ha) o e) fun j p hs => ?_⟩
    subst hs
    obtain ⟨_, m, v0, c, e1, e2, e3, w⟩ := q
    obtain ⟨v1, fp1, e4, h3, rm⟩ := h.slV e1
    rw [e2] at e4; cases e4
    exact ⟨m, v0, c, e1, e2, e3, w.keep rm e3 s.f kF fun a ha o e => kA a (mem_flat h3 ha) o e⟩
  · cases e : r.H a with
    | none => exact absurd e (h.da a ha)
    | some o => show H' a ≠ none; rw [kA a ha o e]; simp
/-- what has come, for later -/
def RSq (W : Wd) (H : Hp) (F : Addr → Prop) (w : List (Option V)) (v : V) (fp : List Addr) : SV → Prop
  | .v m => RM W F H m v fp
  | .al j p => fp = [] ∧ ∃ v0, w[j]? = some (some v0) ∧ WalkV W H v0 p v
  | _ => fp = []
inductive RSqs (W : Wd) (H : Hp) (F : Addr → Prop) (w : List (Option V)) : List SV → List V → List (List Addr) → Prop
  | nil : RSqs W H F w [] [] []
  | cons {x : SV} {v : V} {fp : List Addr} {xs : List SV} {vs : List V} {fps : List (List Addr)} (q : RSq W H F w v fp x) (t : RSqs W H F w xs vs fps) : RSqs W H F w (x :: xs) (v :: vs) (fp :: fps)
theorem RS.toq {x : SV} {v : V} {fp : List Addr} (q : RS W r v fp x) : RSq W r.H r.F r.w v fp x := by
  cases x with
  | v m => exact q
  | al j p => obtain ⟨e, m, v0, c, _, e2, _, w⟩ := q; exact ⟨e, v0, e2, w⟩
  | xr i => exact q.1
  | _ => exact q.elim
theorem RSs.toq : ∀ {xs : List SV} {vs : List V} {fp : List Addr}, RSs W r xs vs fp → ∃ fps, RSqs W r.H r.F r.w xs vs fps ∧ fp.Perm fps.flatten
  | _, _, _, .nil => ⟨[], .nil, by simp⟩
  | _, _, _, .cons q t => by
    obtain ⟨fps, a, b⟩ := RSs.toq t
    exact ⟨_ :: fps, .cons q.toq a, by rw [List.flatten_cons]; exact List.perm_append_comm.trans (List.Perm.append_left _ b)⟩
theorem RSq.more {F F' : Addr → Prop} {H : Hp} {w : List (Option V)} {x : SV} {v : V} {fp : List Addr} (q : RSq W H F w v fp x) (f : ∀ a, F a → F' a) : RSq W H F' w v fp x := by
  cases x with
  | v m => exact RM.same q f rfl
  | _ => exact q
theorem RSqs.more {F F' : Addr → Prop} {H : Hp} {w : List (Option V)} (f : ∀ a, F a → F' a) : ∀ {xs : List SV} {vs : List V} {fps : List (List Addr)}, RSqs W H F w xs vs fps → RSqs W H F' w xs vs fps
  | _, _, _, .nil => .nil
  | _, _, _, .cons q t => .cons (q.more f) (RSqs.more f t)
/-- a slot whose thing is away: what puts it back -/
inductive HoldR (W : Wd) (F : Addr → Prop) (H : Hp) (w : List (Option V)) : Hole → V → List Addr → Prop
  | no {v : V} : HoldR W F H w .no v []
  | at {i : Nat} {p : List Nat} {m0 : M} {v v0 : V} {rest : List Addr} (hw : w[i]? = some (some v0)) (th : ∀ a ∈ rest, H a ≠ none)
      (re : ∀ (F' : Addr → Prop) (H' : Hp), Keeps F F' H H' rest → WalkV W H' v0 p v ∧ ∀ (c' : M) (fq' : List Addr) (m' : M), RM W F' H' c' v fq' → setAtO c' p m0 = some m' → ∃ fp', RM W F' H' m' v0 fp' ∧ fp'.Perm (rest ++ fq')) : HoldR W F H w (.at i p m0) v rest
inductive HoldRs (W : Wd) (F : Addr → Prop) (H : Hp) (w : List (Option V)) : List Hole → List V → List (List Addr) → Prop
  | nil : HoldRs W F H w [] [] []
  | cons {h : Hole} {v : V} {rest : List Addr} {hs : List Hole} {vs : List V} {rests : List (List Addr)} (q : HoldR W F H w h v rest) (t : HoldRs W F H w hs vs rests) : HoldRs W F H w (h :: hs) (v :: vs) (rest :: rests)
theorem HoldRs.there {F : Addr → Prop} {H : Hp} {w : List (Option V)} : ∀ {hs : List Hole} {vs : List V} {rests : List (List Addr)}, HoldRs W F H w hs vs rests → ∀ a ∈ rests.flatten, H a ≠ none
  | _, _, _, .nil, a, ha => by simp at ha
  | _, _, _, .cons q t, a, ha => by
    rw [List.flatten_cons] at ha
    rcases List.mem_append.mp ha with z | z
    · cases q with
      | no => simp at z
      | «at» _ th _ => exact th a z
    · exact HoldRs.there t a z
theorem perm_nodup {A B : List Addr} (p : A.Perm B) (h : B.Nodup) : A.Nodup := (List.Perm.nodup_iff p).mpr h
theorem cnt_nodup {A B : List Addr} (c : ∀ a, A.count a ≤ B.count a) (h : B.Nodup) : A.Nodup := List.nodup_iff_count.mpr fun a => Nat.le_trans (c a) (List.nodup_iff_count.mp h a)
theorem cnt_mem {A B : List Addr} (c : ∀ a, A.count a ≤ B.count a) {a : Addr} (h : a ∈ A) : a ∈ B := List.count_pos_iff.mp (Nat.lt_of_lt_of_le (List.count_pos_iff.mpr h) (c a))
theorem take_ex : ∀ {svs : List SV} {vs : List V} {fps : List (List Addr)} {r : Wr} {K : List M → List Hole → Env → Prop}, ER W E r → RSqs W r.H r.F r.w svs vs fps → (r.A ++ fps.flatten).Nodup → takeW svs r.σ K →
    ∃ r' ms hs fas rests, K ms hs r'.σ ∧ ER W E r' ∧ r'.F = r.F ∧ r'.H = r.H ∧ r'.w = r.w ∧ RL W r.F r.H ms vs fas ∧ HoldRs W r.F r.H r.w hs vs rests ∧ (∀ a, (r'.A ++ (fas.flatten ++ rests.flatten)).count a ≤ (r.A ++ fps.flatten).count a) ∧ ∀ m t, svs = .v m :: t → ∃ hs', hs = .no :: hs'
  | _, _, _, r, K, h, .nil, nd, g => ⟨r, [], [], [], [], g, h, rfl, rfl, rfl, .nil, .nil, by simp, fun m t e => by cases e⟩
  | .v m :: svs, _, _, r, K, h, .cons (fp := fp) q t, nd, g => by
    obtain ⟨r', ms, hs, fas, rests, k, er, eF, eH, ew, rl, hl, c, _⟩ := take_ex h t (by
      refine cnt_nodup (fun a => ?_) nd
      simp only [List.flatten_cons, List.count_append]; omega) g
    refine ⟨r', m :: ms, .no :: hs, fp :: fas, [] :: rests, k, er, eF, eH, ew, .cons q rl, .cons .no hl, fun a => ?_, fun _ _ _ => ⟨hs, rfl⟩⟩
    have := c a
    simp only [List.flatten_cons, List.count_append, List.nil_append] at this ⊢
    omega
  | .al i p :: svs, _, _, r, K, h, .cons q t, nd, g => by
    obtain ⟨rfl, v0, hw, wk⟩ := q
    obtain ⟨s, e, g⟩ := nthW_ex g
    cases s with
    | v m0 =>
      obtain ⟨c, e3, g⟩ := atW_ex g
      obtain ⟨v1, fp0, hw1, hf, rm0⟩ := h.slV e
      rw [hw] at hw1; cases hw1
      obtain ⟨u, fq, rest, w1, rc, pm, re⟩ := rm0.path e3
      cases wk.inj w1
      split at g
      · rename_i z
        obtain ⟨r', ms, hs, fas, rests, k, er, eF, eH, ew, rl, hl, ct, _⟩ := take_ex h t (by simpa using nd) g
        have := rc.fz_nil z
        subst this
        refine ⟨r', c :: ms, .no :: hs, [] :: fas, [] :: rests, k, er, eF, eH, ew, .cons rc rl, .cons .no hl, fun a => ?_, fun _ _ e => by cases e⟩
        have := ct a
        simp only [List.flatten_cons, List.count_append, List.nil_append] at this ⊢
        omega
      · obtain ⟨hi, g⟩ := setW_ex (mapW_eq g)
        have hi : i < r.σ.length := by simpa using hi
        obtain ⟨oth, pA, pS⟩ := flat_set hf
        have sw : r.w.set i (some v0) = r.w := by
          obtain ⟨hl, e⟩ := List.getElem?_eq_some_iff.mp hw
          rw [← e]; exact List.set_getElem_self hl
        obtain ⟨er1, _⟩ := h.slot hi none (some v0) [] fp0 hf (by simp) (by simp) (by simp) (by simp) fun s' e => by cases e
        rw [sw] at er1
        have cA : ∀ a, r.A.count a = oth.count a + fp0.count a := fun a => by rw [pA.count_eq a, List.count_append]
        have cS : ∀ a, (r.fps.set i []).flatten.count a = oth.count a := fun a => by rw [(pS []).count_eq a, List.append_nil]
        obtain ⟨r', ms, hs, fas, rests, k, er, eF, eH, ew, rl, hl, ct, _⟩ := take_ex (r := ⟨r.F, r.H, (r.σ.map (clr i)).set i none, r.w, r.fps.set i []⟩) er1 t (by
          refine cnt_nodup (fun a => ?_) nd
          have := cA a
          have := cS a
          simp only [List.flatten_cons, List.count_append, List.nil_append]
          simp only [Wr.A] at *
          omega) g
        refine ⟨r', c :: ms, .at i p m0 :: hs, fq :: fas, rest :: rests, k, er, eF, eH, ew, .cons rc rl, .cons (.at hw (fun a ha => rm0.there a (pm.mem_iff.mpr (List.mem_append_left _ ha))) fun F' H' kp => ?_) hl, fun a => ?_, fun _ _ e => by cases e⟩
        · obtain ⟨b1, b2⟩ := re F' H' kp
          exact ⟨b1 p _ (aheadEq_refl p) w1, b2⟩
        · have h1 := ct a
          have h2 := cA a
          have h3 := cS a
          have h4 := pm.count_eq a
          simp only [List.flatten_cons, List.count_append, List.nil_append, Wr.A] at h1 h2 h3 h4 ⊢
          omega
    | _ => exact g.elim
  | .exc _ _ :: _, _, _, _, _, _, .cons _ _, _, g => g.elim
  | .exg _ :: _, _, _, _, _, _, .cons _ _, _, g => g.elim
  | .xr _ :: _, _, _, _, _, _, .cons _ _, _, g => g.elim
/-- where what was away stands behind the call -/
inductive BackR (W : Wd) (H : Hp) (w : List (Option V)) : Hole → V → Prop
  | no {v : V} : BackR W H w .no v
  | at {i : Nat} {p : List Nat} {m0 : M} {v v0 : V} (hw : w[i]? = some (some v0)) (wk : WalkV W H v0 p v) : BackR W H w (.at i p m0) v
theorem rest_ex {F : Addr → Prop} {H : Hp} : ∀ {hs : List Hole} {vs : List V} {rests : List (List Addr)} {outs : List M} {fos : List (List Addr)} {r : Wr} {K : Env → Prop}, ER W E r → HoldRs W F H r.w hs vs rests → Keeps F r.F H r.H rests.flatten → RL W r.F r.H outs vs fos →
    (r.A ++ (fos.flatten ++ rests.flatten)).Nodup → (∀ a ∈ fos.flatten ++ rests.flatten, ¬ r.F a ∧ r.H a ≠ none) → restW hs outs r.σ K →
    ∃ (r' : Wr) (lefts : List (List Addr)), K r'.σ ∧ ER W E r' ∧ r'.F = r.F ∧ r'.H = r.H ∧ r'.w = r.w ∧ (∀ a, (r'.A ++ lefts.flatten).count a ≤ (r.A ++ (fos.flatten ++ rests.flatten)).count a) ∧
      ∀ (j : Nat) (hh : Hole) (v : V) (o : M), hs[j]? = some hh → vs[j]? = some v → outs[j]? = some o → BackR W r.H r.w hh v ∧ ((∃ i p m0, hh = .at i p m0) ∨ ∃ fo, lefts[j]? = some fo ∧ RM W r.F r.H o v fo)
  | _, _, _, _, _, r, K, h, .nil, kp, .nil, nd, tf, g => ⟨r, [], g, h, rfl, rfl, rfl, by simp, fun j hh v o e => by simp at e⟩
  | .no :: hs, _, _, o :: outs, _, r, K, h, .cons q t, kp, .cons (fp := fo) ro rl, nd, tf, g => by
    cases q
    obtain ⟨r', lefts, k, er, eF, eH, ew, ct, bk⟩ := rest_ex h t (kp.sub fun a ha => by simpa using ha) rl (by
      refine cnt_nodup (fun a => ?_) nd
      simp only [List.flatten_cons, List.count_append, List.nil_append]; omega) (fun a ha => tf a (by
        rcases List.mem_append.mp ha with z | z
        · exact List.mem_append_left _ (by rw [List.flatten_cons]; exact List.mem_append_right _ z)
        · exact List.mem_append_right _ (by simpa using z))) g
    refine ⟨r', fo :: lefts, k, er, eF, eH, ew, fun a => ?_, fun j hh v o' e1 e2 e3 => ?_⟩
    · have := ct a
      simp only [List.flatten_cons, List.count_append, List.nil_append] at this ⊢
      omega
    · cases j with
      | zero => simp at e1 e2 e3; subst e1; subst e2; subst e3; exact ⟨.no, .inr ⟨fo, rfl, ro⟩⟩
      | succ j =>
        obtain ⟨a1, a2⟩ := bk j hh v o' (by simpa using e1) (by simpa using e2) (by simpa using e3)
        exact ⟨a1, a2.imp id fun ⟨fo, b1, b2⟩ => ⟨fo, by simpa using b1, b2⟩⟩
  | .at i p m0 :: hs, _, _, o :: outs, _, r, K, h, .cons (rest := rst) (rests := rests) q t, kp, .cons (fp := fo) (fps := fos) ro rl, nd, tf, g => by
    cases q with
    | @«at» _ _ _ _ v0 _ hw th re =>
      obtain ⟨m', e1, g⟩ := setAtW_ex g
      obtain ⟨hi, g⟩ := setW_ex (mapW_eq g)
      have hi : i < r.σ.length := by simpa using hi
      obtain ⟨wk, re⟩ := re r.F r.H (kp.sub fun a ha => by rw [List.flatten_cons]; exact List.mem_append_left _ ha)
      obtain ⟨fp', rm', pm'⟩ := re o fo m' ro e1
      obtain ⟨fp0, hf⟩ := h.fpAt hi
      obtain ⟨oth, pA, pS⟩ := flat_set hf
      have sw : r.w.set i (some v0) = r.w := by
        obtain ⟨hl, e⟩ := List.getElem?_eq_some_iff.mp hw
        rw [← e]; exact List.set_getElem_self hl
      have cA : ∀ a, r.A.count a = oth.count a + fp0.count a := fun a => by rw [pA.count_eq a, List.count_append]
      have cS : ∀ a, (r.fps.set i fp').flatten.count a = oth.count a + (rst.count a + fo.count a) := fun a => by rw [(pS fp').count_eq a, List.count_append, pm'.count_eq a, List.count_append]
      have inn : ∀ a ∈ fp', a ∈ (fo :: fos).flatten ++ (rst :: rests).flatten := fun a ha => by
        rcases List.mem_append.mp (pm'.mem_iff.mp ha) with z | z
        · exact List.mem_append_right _ (by rw [List.flatten_cons]; exact List.mem_append_left _ z)
        · exact List.mem_append_left _ (by rw [List.flatten_cons]; exact List.mem_append_left _ z)
      have nd' := List.nodup_append.mp nd
      obtain ⟨er1, _⟩ := h.slot hi (some (.v m')) (some v0) fp' fp0 hf (cnt_nodup (fun a => by
          have := pm'.count_eq a
          simp only [List.flatten_cons, List.count_append] at this ⊢
          omega) nd'.2.1) (fun a ha => .inr fun z => nd'.2.2 a z a (inn a ha) rfl) (fun a ha => (tf a (inn a ha)).1) (fun a ha => (tf a (inn a ha)).2) fun s' e => by cases e; exact ⟨v0, rfl, rm'⟩
      rw [sw] at er1
      obtain ⟨r', lefts, k, er, eF, eH, ew, ct, bk⟩ := rest_ex (r := ⟨r.F, r.H, (r.σ.map (clr i)).set i (some (.v m')), r.w, r.fps.set i fp'⟩) er1 t (kp.sub fun a ha => by rw [List.flatten_cons]; exact List.mem_append_right _ ha) rl (by
        refine cnt_nodup (fun a => ?_) nd
        have h2 := cA a
        have h3 := cS a
        simp only [List.flatten_cons, List.count_append, Wr.A] at h2 h3 ⊢
        omega) (fun a ha => tf a (by
          rcases List.mem_append.mp ha with z | z
          · exact List.mem_append_left _ (by rw [List.flatten_cons]; exact List.mem_append_right _ z)
          · exact List.mem_append_right _ (by rw [List.flatten_cons]; exact List.mem_append_right _ z))) g
      refine ⟨r', [] :: lefts, k, er, eF, eH, ew, fun a => ?_, fun j hh v o' e1 e2 e3 => ?_⟩
      · have h1 := ct a
        have h2 := cA a
        have h3 := cS a
        simp only [List.flatten_cons, List.count_append, List.nil_append, Wr.A] at h1 h2 h3 ⊢
        omega
      · cases j with
        | zero => simp at e1 e2 e3; subst e1; subst e2; exact ⟨.at hw wk, .inl ⟨i, p, m0, rfl⟩⟩
        | succ j =>
          obtain ⟨a1, a2⟩ := bk j hh v o' (by simpa using e1) (by simpa using e2) (by simpa using e3)
          exact ⟨a1, a2.imp id fun ⟨fo, b1, b2⟩ => ⟨fo, by simpa using b1, b2⟩⟩
end
end QL
end
section
set_option linter.all false
set_option maxRecDepth 100000
set_option maxHeartbeats 1000000
/-! SB9: a call meets its def's promise. -/
namespace QL
open PySem PySem.Spec PyProof.Rows L2

section
variable {W : Wd} {E : List (Addr × Nat × Addr)} {Wx : WX} {r r1 r2 r4 r5 r6 : Wr} {σV : L2.St} {Q : VK}
theorem unshare_ex : ∀ {is : List Nat} {r : Wr} {K : Env → Prop}, ER W E r → unshareW is r.σ K → ∃ r', Nx W E r [] r'.σ r' [] ∧ K r'.σ ∧ r'.H = r.H
  | [], r, K, h, g => ⟨r, .here h (.nil h), g, rfl⟩
  | i :: is, r, K, h, g => by
    obtain ⟨s, e, _⟩ := nthW_ex (show nthW r.σ i _ from g)
    cases s with
    | v m =>
      obtain ⟨v, fp, hw, hf, rm⟩ := h.slV e
      have q : RS W r v [] (.al i []) := ⟨rfl, m, v, m, e, hw, rfl, rfl⟩
      obtain ⟨r1, f, n, g, _, _, eH⟩ := frzSW_ex h q (.nil h) g
      obtain ⟨r2, n2, k, eH2⟩ := unshare_ex n.er g
      exact ⟨r2, n.trans n2, k, eH2.trans eH⟩
    | _ =>
      obtain ⟨s, e', z⟩ := nthW_ex (show nthW r.σ i _ from g)
      rw [e] at e'; cases e'
      exact z.elim
theorem nthL_ex {α : Type} : ∀ {l : List α} {i : Nat} {K : α → Prop}, nthL l i K → ∃ a, l[i]? = some a ∧ K a
  | [], _, _, h => h.elim
  | a :: _, 0, _, h => ⟨a, rfl, h⟩
  | _ :: r, n + 1, K, h => by
    obtain ⟨a, e, h⟩ := nthL_ex (l := r) h
    exact ⟨a, by simpa using e, h⟩
theorem count_le_of {A B : List Addr} (nd : A.Nodup) (h : ∀ a ∈ A, a ∈ B) (a : Addr) : A.count a ≤ B.count a := by
  by_cases z : a ∈ A
  · have h1 : A.count a ≤ 1 := List.nodup_iff_count.mp nd a
    have h2 : 0 < B.count a := List.count_pos_iff.mpr (h a z)
    omega
  · rw [List.count_eq_zero_of_not_mem z]; omega
theorem call_gen {gf : List M → CK → CX → Prop} {svs : List SV} {vs : List V} {fp : List Addr} {X : XP} {K : SV → List M → Env → Prop} (n4 : Nx W E r [] r4.σ r4 fp) (qs : RSs W r4 svs vs fp) (g : callOW gf svs X r4.σ K) (hX : ∀ c m σ', X c m σ' → XEp W E Wx r σV c m σ')
    (fin : ∀ sv outs σ', K sv outs σ' → ∀ (r' : Wr) (v : V) (fq fr : List Addr), r'.σ = σ' → Nx W E r [] r'.σ r' (fq ++ fr) → RS W r' v fq sv →
      (∀ m t, svs = .v m :: t → ∀ o v0, outs[0]? = some o → vs[0]? = some v0 → fq = [] → ∃ fo rest, RM W r'.F r'.H o v0 fo ∧ fr.Perm (rest ++ fo)) → Q v r'.H) : spD W gf vs r4.H Q (WE Wx σV) := by
  have er4 := n4.er
  obtain ⟨r5, n5, g, eH5⟩ := unshare_ex er4 g
  obtain ⟨fps, q4, pm⟩ := qs.toq
  have th4 : ∀ a ∈ fp, r4.H a ≠ none := by
    have key : ∀ {svs : List SV} {vs : List V} {fp : List Addr}, RSs W r4 svs vs fp → ∀ a ∈ fp, r4.H a ≠ none := fun {svs vs fp} q => by
      induction q with
      | nil => simp
      | cons q t ih =>
        intro a ha
        rcases List.mem_append.mp ha with z | z
        · exact ih a z
        · exact q.there a z
    exact key qs
  have w5 := Nx.wide n4.sep th4 n5
  rw [List.nil_append] at w5
  have q5 : RSqs W r5.H r5.F r5.w svs vs fps := by
    rw [eH5, n5.w]; exact q4.more n5.st.f
  have pmc : ∀ a, fps.flatten.count a = fp.count a := fun a => (pm.count_eq a).symm
  have nd5 : (r5.A ++ fps.flatten).Nodup := cnt_nodup (fun a => by rw [List.count_append, List.count_append, pmc]; exact Nat.le_refl _) w5.sep.nd
  obtain ⟨r6, ms, hs, fas, rests, g, er6, eF6, eH6, ew6, rl, hl, ct, hd⟩ := take_ex n5.er q5 nd5 g
  have all6 : (r6.A ++ (fas.flatten ++ rests.flatten)).Nodup := cnt_nodup ct nd5
  have sub6 : ∀ a ∈ r6.A ++ (fas.flatten ++ rests.flatten), a ∈ r5.A ++ fp := fun a ha => by
    rcases List.mem_append.mp (cnt_mem ct ha) with z | z
    · exact List.mem_append_left _ z
    · exact List.mem_append_right _ (pm.mem_iff.mpr z)
  have subF : ∀ a ∈ fas.flatten, a ∈ r5.A ++ fp := fun a ha => sub6 a (List.mem_append_right _ (List.mem_append_left _ ha))
  have subR : ∀ a ∈ rests.flatten, a ∈ r5.A ++ fp := fun a ha => sub6 a (List.mem_append_right _ (List.mem_append_right _ ha))
  have nF : ∀ a ∈ r5.A ++ fp, ¬ r5.F a := fun a ha => by
    rcases List.mem_append.mp ha with z | z
    · exact n5.er.nf a z
    · exact w5.sep.nf a z
  have fnA : ∀ a, r5.F a → a ∉ fas.flatten := fun a f z => nF a (subF a z) f
  have s1 := List.nodup_append.mp all6
  have s2 := List.nodup_append.mp s1.2.1
  have ap6 : ∀ a ∈ r6.A, a ∉ fas.flatten := fun a ha z => s1.2.2 a ha a (List.mem_append_left _ z) rfl
  have apR : ∀ a ∈ rests.flatten, a ∉ fas.flatten := fun a ha z => s2.2.2 a z a ha rfl
  -- behind the call
  have back : ∀ (outs : List M) (K' : Env → Prop) (F' : Addr → Prop) (H' : Hp) (fos : List (List Addr)) (fpR : List Addr), restW hs outs r6.σ K' → Aft r5.F r5.H fas.flatten F' H' (fos.flatten ++ fpR) → RL W F' H' outs vs fos →
      ∃ (r7 : Wr) (lefts : List (List Addr)), K' r7.σ ∧ r7.F = F' ∧ r7.H = H' ∧ Nx W E r [] r7.σ r7 (lefts.flatten ++ fpR) ∧
        ∀ (j : Nat) (hh : Hole) (v : V) (o : M), hs[j]? = some hh → vs[j]? = some v → outs[j]? = some o → BackR W H' r7.w hh v ∧ ((∃ i p m0, hh = .at i p m0) ∨ ∃ fo, lefts[j]? = some fo ∧ RM W F' H' o v fo) := by
    intro outs K' F' H' fos fpR gr af rlo
    have st6 : Stp r6.F r6.H fas.flatten F' H' (fos.flatten ++ fpR) := by rw [eF6, eH6]; exact af.st
    have fnA6 : ∀ a, r6.F a → a ∉ fas.flatten := by rw [eF6]; exact fnA
    have er6' := er6.past st6 ap6 fnA6 af.df
    have old : ∀ a, a ∈ fos.flatten ++ fpR → a ∉ r6.A ∧ a ∉ rests.flatten := fun a ha => by
      rcases af.st.a a ha with z | z
      · exact ⟨fun y => ap6 a y z, fun y => apR a y z⟩
      · refine ⟨fun y => er6.da a y (by rw [eH6]; exact z), fun y => ?_⟩
        exact hl.there a y z
    have ndB := List.nodup_append.mp af.nd
    have nd7 : (r6.A ++ (fos.flatten ++ rests.flatten)).Nodup := by
      refine List.nodup_append.mpr ⟨s1.1, List.nodup_append.mpr ⟨ndB.1, s2.2.1, fun a ha b hb z => ?_⟩, fun a ha b hb z => ?_⟩
      · subst z; exact (old a (List.mem_append_left _ ha)).2 hb
      · subst z
        rcases List.mem_append.mp hb with y | y
        · exact (old a (List.mem_append_left _ y)).1 ha
        · exact s1.2.2 a ha a (List.mem_append_right _ y) rfl
    have tf : ∀ a ∈ fos.flatten ++ rests.flatten, ¬ F' a ∧ H' a ≠ none := fun a ha => by
      rcases List.mem_append.mp ha with y | y
      · exact ⟨af.nf a (List.mem_append_left _ y), rlo.there a y⟩
      · refine ⟨af.st.notF hl.there apR (fun b hb => nF b (subR b hb)) a y, ?_⟩
        cases e : r5.H a with
        | none => exact absurd e (hl.there a y)
        | some o => rw [af.st.k a o e (apR a y)]; simp
    have kp : Keeps r5.F F' r5.H H' rests.flatten := ⟨af.st.f, fun a o f e => af.st.k a o e (fnA a f), fun a ha o e => af.st.k a o e (apR a ha)⟩
    obtain ⟨r7, lefts, k7, er7, eF7, eH7, ew7, ct7, bk⟩ := rest_ex (r := ⟨F', H', r6.σ, r6.w, r6.fps⟩) er6' (by show HoldRs W r5.F r5.H r6.w hs vs rests; rw [ew6]; exact hl) kp rlo nd7 tf gr
    have mem7 : ∀ a ∈ r7.A ++ lefts.flatten, a ∈ r6.A ++ (fos.flatten ++ rests.flatten) := fun a ha => cnt_mem ct7 ha
    have nd8 : (r7.A ++ lefts.flatten).Nodup := cnt_nodup ct7 nd7
    have apP : ∀ a ∈ fpR, a ∉ r7.A ++ lefts.flatten := fun a ha z => by
      rcases List.mem_append.mp (mem7 a z) with y | y
      · exact (old a (List.mem_append_right _ ha)).1 y
      · rcases List.mem_append.mp y with y | y
        · exact ndB.2.2 a y a ha rfl
        · exact (old a (List.mem_append_right _ ha)).2 y
    refine ⟨r7, lefts, k7, eF7, eH7, ?_, by rw [show r7.w = r6.w from ew7]; exact bk⟩
    have S : Stp r5.F r5.H (r5.A ++ fp) r7.F r7.H (r7.A ++ (lefts.flatten ++ fpR)) := by
      rw [eF7, eH7]
      refine ⟨af.st.f, fun a o e n => af.st.k a o e fun z => n (subF a z), fun a ha => ?_, fun a z => ?_⟩
      · rw [← List.append_assoc] at ha
        rcases List.mem_append.mp ha with y | y
        · rcases List.mem_append.mp (mem7 a y) with y | y
          · exact .inl (sub6 a (List.mem_append_left _ y))
          · rcases List.mem_append.mp y with y | y
            · exact (af.st.a a (List.mem_append_left _ y)).imp (subF a) id
            · exact .inl (subR a y)
        · exact (af.st.a a (List.mem_append_right _ y)).imp (subF a) id
      · exact (af.st.g a z).imp id (Or.imp (subF a) id)
    refine ⟨rfl, er7, ?_, n4.st.trans (w5.st.trans S), ⟨?_, fun a ha => ?_⟩⟩
    · exact (show r7.w = r6.w from ew7).trans (ew6.trans (n5.w.trans n4.w))
    · rw [← List.append_assoc]
      exact List.nodup_append.mpr ⟨nd8, ndB.2.1, fun a ha b hb z => by subst z; exact apP a hb ha⟩
    · rw [eF7]
      rcases List.mem_append.mp ha with y | y
      · rcases List.mem_append.mp (mem7 a (List.mem_append_right _ y)) with y' | y'
        · exact fun z => er6'.nf a y' z
        · exact (tf a y').1
      · exact af.nf a (List.mem_append_right _ y)
  rw [← eH5]
  refine ⟨r5.F, ms, fas, _, _, n5.er.df, rl, s2.1, fun a ha => nF a (subF a ha), g, fun sv outs kk F' H' fos v fpR af rlo rc => ?_, fun c m outs kk F' H' fos d pv fpR af rlo fd hd' rm C hC => ?_⟩
  · obtain ⟨r7, lefts, k7, eF7, eH7, n7, bk⟩ := back outs _ F' H' fos fpR kk af rlo
    have first : ∀ m t, svs = .v m :: t → ∀ o v0, outs[0]? = some o → vs[0]? = some v0 → ∃ fo rest, RM W r7.F r7.H o v0 fo ∧ lefts.flatten.Perm (rest ++ fo) := fun m t e o v0 e1 e2 => by
      obtain ⟨hs', eh⟩ := hd m t e
      subst eh
      obtain ⟨_, b | ⟨fo, b1, b2⟩⟩ := bk 0 .no v0 o rfl e2 e1
      · obtain ⟨i, p, m0, z⟩ := b; cases z
      · obtain ⟨oth, p1, _⟩ := flat_set b1
        exact ⟨fo, oth, by rw [eF7, eH7]; exact b2, p1⟩
    rw [← eH7]
    cases sv with
    | v m => exact fin _ _ _ k7 r7 v fpR lefts.flatten rfl n7.swap (by show RM W r7.F r7.H m v fpR; rw [eF7, eH7]; exact rc) fun m t e o v0 e1 e2 _ => first m t e o v0 e1 e2
    | al j p =>
      obtain ⟨rfl, o, v0, c, e1, e2, e3, wk⟩ := rc
      obtain ⟨hh, eh, k7⟩ := nthL_ex k7
      obtain ⟨b1, b2⟩ := bk j hh v0 o eh e2 e1
      rw [List.append_nil] at n7
      cases hh with
      | no =>
        obtain ⟨o', e1', k7⟩ := nthL_ex k7
        rw [e1] at e1'; cases e1'
        obtain ⟨c', e3', k7⟩ := atW_ex k7
        rw [e3] at e3'; cases e3'
        rcases b2 with ⟨_, _, _, z⟩ | ⟨fo, b2, b3⟩
        · cases z
        obtain ⟨u, fq, rest, w1, rc, pm1, _⟩ := b3.path e3
        cases wk.inj w1
        obtain ⟨oth, p1, _⟩ := flat_set b2
        have pp : lefts.flatten.Perm (fq ++ (oth ++ rest)) := by
          refine p1.trans ((List.Perm.append_left oth pm1).trans ?_)
          rw [← List.append_assoc]
          exact List.perm_append_comm
        refine fin _ _ _ k7 r7 _ fq (oth ++ rest) rfl (n7.perm pp) (by show RM W r7.F r7.H c _ fq; rw [eF7, eH7]; exact rc) fun m t e o' v0' h1 h2 z => ?_
        subst z
        obtain ⟨fo', rest', a1, a2⟩ := first m t e o' v0' h1 h2
        exact ⟨fo', rest', a1, (by simpa using pp.symm.trans a2)⟩
      | «at» i q m0 =>
        cases b1 with
        | «at» hw wk1 =>
          obtain ⟨s, es, _⟩ := nthW_ex (show nthW r7.σ i _ from k7)
          cases s with
          | v m =>
            obtain ⟨s', es', gg⟩ := nthW_ex (show nthW r7.σ i _ from k7)
            rw [es] at es'; cases es'
            obtain ⟨c', ec, _⟩ := atW_ex gg
            have qq : RS W r7 v [] (.al i (q ++ p)) := ⟨rfl, m, _, c', es, hw, ec, by rw [eH7]; exact wk1.app wk⟩
            obtain ⟨sv', kk', q'⟩ := normW_ex n7.er qq k7
            exact fin _ _ _ kk' r7 v [] lefts.flatten rfl (by simpa using n7) q' fun m t e o v0 e1 e2 _ => first m t e o v0 e1 e2
          | _ =>
            obtain ⟨s', es', gg⟩ := nthW_ex (show nthW r7.σ i _ from k7)
            rw [es] at es'; cases es'
            exact gg.elim
    | _ => exact rc.elim
  · obtain ⟨r7, lefts, k7, eF7, eH7, n7, bk⟩ := back outs _ F' H' fos fpR kk af rlo
    rw [← eH7]
    exact hX c m _ k7 r7 fpR d pv (n7.less (List.sublist_append_right _ _)) (by rw [eF7]; exact fd) (by rw [eH7]; exact hd') (by rw [eF7, eH7]; exact rm) C hC
theorem call_sp {gf : List M → CK → CX → Prop} {svs : List SV} {vs : List V} {fp : List Addr} {X : XP} {K : KS} (n4 : Nx W E r [] r4.σ r4 fp) (qs : RSs W r4 svs vs fp) (g : callGW gf svs X r4.σ K) (hX : ∀ c m σ', X c m σ' → XEp W E Wx r σV c m σ')
    (hK : ∀ sv σ', K sv σ' → Fin W E r Q sv σ') : spD W gf vs r4.H Q (WE Wx σV) :=
  call_gen n4 qs g hX fun sv outs σ' k r' v fq fr e n q _ => hK sv σ' k r' e v fq (n.less (List.sublist_append_left _ _)) q
end
end QL
end
section
set_option linter.all false
set_option maxRecDepth 100000
set_option maxHeartbeats 1000000
/-! SC1: slices, fields, calls as readings. -/
namespace QL
open PySem PySem.Spec PyProof.Rows L2

def rSl (K : PySem.W.Frag) : V → Option Int → Option Int → Hp → VK → Prop := fun x lo hi H Q => rSlL K x lo hi H Q ∨ rSlA K x lo hi H Q ∨ rSlS x lo hi H Q
theorem sl_any {X : Cx} : SlR X (rSl X.K) := sl_list.or (sl_tupA.or sl_str)
theorem cut_RDs {K : PySem.W.Frag} {F : Addr → Prop} {H : Hp} {ds : List D} {vs : List V} (lo hi : Option Int) (r : RDs K F H ds vs) : RDs K F H (cut ds lo hi) (cutV vs lo hi) := by
  unfold cut cutV
  rw [r.length]
  exact (r.drop _).take _
theorem cut_le {α : Type} (xs : List α) (lo hi : Option Int) : (cut xs lo hi).length ≤ xs.length := by
  unfold cut
  rw [List.length_take, List.length_drop]; omega
theorem cut_all {α : Type} {xs : List α} {lo hi : Option Int} (h : HT.sIx xs.length 0 lo = 0 ∧ HT.sIx xs.length xs.length hi = xs.length) : cut xs lo hi = xs := by
  unfold cut
  rw [h.1, h.2]; simp
theorem cutStr_is (z : Str) (lo hi : Option Int) : cutStr z lo hi = cutS z lo hi := by
  unfold cutStr cutS cut
  have : z.cps.toList.length = z.length := by simp [Str.length]
  rw [this]
theorem strOk_sub {z : Str} {l : List Nat} (h : PyData.strOk z = true) (s : ∀ c ∈ l, c ∈ z.cps.toList) : PyData.strOk ⟨l.toArray⟩ = true := by
  unfold PyData.strOk at *
  rw [Array.all_eq_true_iff_forall_mem] at *
  intro c hc
  exact h c (by simpa using s c (by simpa using hc))
theorem strOk_cut {z : Str} {lo hi : Option Int} (h : PyData.strOk z = true) : PyData.strOk (cutStr z lo hi) = true := strOk_sub h fun c hc => List.mem_of_mem_drop (List.mem_of_mem_take hc)
theorem len_cut {z : Str} {lo hi : Option Int} (h : z.length ≤ sizeLine) : (cutStr z lo hi).length ≤ sizeLine := by
  have h1 : (cutStr z lo hi).length = (cut z.cps.toList lo hi).length := by simp [cutStr, Str.length]
  have h2 := cut_le z.cps.toList lo hi
  have h3 : z.cps.toList.length = z.length := by simp [Str.length]
  omega
section
variable {Γ : Ctx} {dp : Bool} {W : Wd} {E : List (Addr × Nat × Addr)} {Wx : WX} {r r1 r2 r4 r5 r6 : Wr} {σV : L2.St} {H : Hp} {Q : VK}
theorem slW_ok {m : M} {v : V} {fm fq : List Addr} {lo hi : Option Int} {K : M → Prop} (n : Nx W E r [] r6.σ r6 fq) (rm : RM W r6.F r6.H m v fm) (g : slW m lo hi K) (hK : ∀ m, K m → Fin W E r Q (.v m) r6.σ) : rSl W.K v lo hi r6.H Q := by
  unfold slW at g
  split at g
  · cases rm with
    | dat rm => cases rm with
      | list f h ln q => exact .inl ⟨_, _, rfl, .inl (.inl h), fun p hp => (hK _ g).newSl n (cut_RDs lo hi q) (Nat.le_trans (cut_le _ _ _) ln) hp⟩
  · cases rm with
    | sl h ln q => exact .inl ⟨_, _, rfl, .inl (.inl h), fun p hp => (hK _ g).newSl n (cut_RDs lo hi q) (Nat.le_trans (cut_le _ _ _) ln) hp⟩
  · cases rm with
    | dat rm => cases rm with
      | tuple h ln q =>
        refine .inr (.inl ⟨_, _, rfl, h.sq, fun e => ?_, fun _ p hp => (hK _ g).newTd n (cut_RDs lo hi q) (Nat.le_trans (cut_le _ _ _) ln) hp⟩)
        rw [← q.length] at e
        have := hK _ g
        rw [cut_all e] at this
        exact this.dat n (.tuple h ln q)
  · cases rm with
    | dat rm => cases rm with
      | str ok ln => exact .inr (.inr ⟨_, rfl, ln, by rw [← cutStr_is]; exact (hK _ g).dat n (.str (strOk_cut ok) (len_cut ln))⟩)
  · exact g.elim
theorem i_sl {a : QL.E} {lo hi : EO} (h : tE Γ dp W E Wx (.sl a lo hi) σV H Q) : tSl (rSl W.K) (tE Γ dp W E Wx a) (tP Γ dp W E Wx lo) (tP Γ dp W E Wx hi) σV H Q := by
  obtain ⟨r, rfl, er, pre, X, K, ev, hX, hK⟩ := h
  refine ⟨r, rfl, er, pre, X, _, ev, hX, fun x σ1 g r1 e v1 fp1 n1 q1 => ?_⟩
  subst e
  refine holdG Jt_P n1 q1 hX pre g fun x' l l' r4 fx fy n4 qx e g => ?_
  subst e
  refine holdG Jt_P (n4.less (List.sublist_append_right _ _)) qx hX pre g fun x'' u u' r6 fx' fz n6 qx' e g => ?_
  subst e
  obtain ⟨r7, m, fq, fn, n7, g, rm, _, _, eH⟩ := settleSW_ex n6.er qx' n6.sep.right g
  rw [← eH]
  exact slW_ok ((n6.less (List.sublist_append_right _ _)).trans n7) rm g fun m k => hK _ _ k

/-! ### fields -/
/-- x.f: a field, a property, the value of a caught exception -/
def rFldP (Γ : Ctx) (W : Wd) (f : Nat) : V → Hp → VK → Prop := fun v H Q => ∃ (g : Nat) (c : Nat) (C a dx : Addr) (fs : List (Str × V)), v = .ref a ∧ W.ins c = some C ∧ H a = some (.ins C dx fs) ∧ Γ.prop c f = some g ∧ spD W (Γ.call g) [v] H Q fun _ _ _ => False
def rFldI (Γ : Ctx) (W : Wd) (f : Nat) : V → Hp → VK → Prop := fun v H Q => ∃ (c : Nat) (C a dx : Addr) (fs : List (Str × V)) (u : V), v = .ref a ∧ W.ins c = some C ∧ H a = some (.ins C dx fs) ∧ Γ.prop c f = none ∧ fs.lookup (W.fld f) = some u ∧ Q u H
def rFldE (W : Wd) (E : List (Addr × Nat × Addr)) (f : Nat) : V → Hp → VK → Prop := fun v H Q => f = f_value ∧ ∃ (a : Addr) (c : Nat) (d : Addr) (u : V), (a, c, d) ∈ E ∧ v = .ref a ∧ H d = some (.xd [(W.fld f_value, u)]) ∧ Q u H
theorem ixOf_none : ∀ {ks : List Nat} {k : Nat}, ixOf k ks = none → k ∉ ks
  | [], _, _ => by simp
  | j :: r, k, h => by
    unfold ixOf at h
    split at h
    · cases h
    · rename_i e
      cases z : ixOf k r with
      | some i => rw [z] at h; cases h
      | none =>
        refine fun m => ?_
        rcases List.mem_cons.mp m with rfl | m
        · simp at e
        · exact ixOf_none z m
theorem RFs.lookup_none {F : Addr → Prop} {k : Nat} : ∀ {ks : List Nat} {ms : List M} {fs : List (Str × V)} {fp : List Addr}, RFs W F H ks ms fs fp → k ∉ ks → fs.lookup (W.fld k) = none
  | _, _, _, _, .nil, _ => rfl
  | _, _, _, _, .cons (k := k') r t, h => by
    rw [List.lookup_cons]
    have : (W.fld k == W.fld k') = false := by
      rw [beq_eq_false_iff_ne]
      exact fun z => h (by rw [W.fldInj _ _ z]; exact List.mem_cons_self)
    rw [this]
    exact RFs.lookup_none t fun z => h (List.mem_cons_of_mem _ z)
theorem call1 {gf : List M → CK → CX → Prop} {x : SV} {v : V} {fp : List Addr} {X : XP} {K : KS} (n4 : Nx W E r [] r4.σ r4 fp) (q : RS W r4 v fp x) (g : callGW gf [x] X r4.σ K) (hX : ∀ c m σ', X c m σ' → XEp W E Wx r σV c m σ')
    (hK : ∀ sv σ', K sv σ' → Fin W E r Q sv σ') : spD W gf [v] r4.H Q (WE Wx σV) := call_sp (fp := [] ++ fp) n4 (.cons q .nil) g hX hK
theorem ER.noal (h : ER W E r) {i : Nat} {s : SV} (e : r.σ[i]? = some (some s)) (ns : ∀ m, s ≠ .v m) : r.σ.map (clr i) = r.σ := by
  apply List.ext_getElem?
  intro j
  rw [List.getElem?_map]
  cases ej : r.σ[j]? with
  | none => rfl
  | some o =>
    show some (clr i o) = some o
    cases o with
    | none => rfl
    | some t =>
      cases t with
      | al k p =>
        obtain ⟨v, fp, _, _, _, m, v0, c, e1, _⟩ := h.sl j _ ej
        have : k ≠ i := fun z => by subst z; rw [e] at e1; cases e1; exact ns _ rfl
        have hb : Nat.beq k i = false := by
          cases z : Nat.beq k i with
          | false => rfl
          | true => exact absurd (Nat.eq_of_beq_eq_true z) this
        simp only [clr, hb]
      | _ => rfl
/-- the value of a caught exception is taken out of its slot -/
theorem ER.exTake (h : ER W E r) {i c : Nat} {m : M} {v : V} (e : r.σ[i]? = some (some (.exc c m))) (hw : r.w[i]? = some (some v)) :
    ∃ fe a d pv, r.fps[i]? = some fe ∧ (a, c, d) ∈ E ∧ v = .ref a ∧ r.F d ∧ r.H d = some (.xd [(W.fld f_value, pv)]) ∧ RM W r.F r.H m pv fe ∧ Nx W E r [] (r.σ.set i (some (.exg c))) ⟨r.F, r.H, r.σ.set i (some (.exg c)), r.w, r.fps.set i []⟩ fe := by
  obtain ⟨v', fe, hw', hf, a, d, pv, hE, hv, hfd, hd, hm⟩ := h.sl i _ e
  rw [hw] at hw'; cases hw'
  have hi := (List.getElem?_eq_some_iff.mp e).1
  obtain ⟨oth, pA, pS⟩ := flat_set hf
  obtain ⟨er1, _⟩ := h.slot hi (some (.exg c)) (some v) [] fe hf (by simp) (by simp) (by simp) (by simp) fun s' e' => by cases e'; exact ⟨v, rfl, rfl, a, d, hE, hv⟩
  have sw : r.w.set i (some v) = r.w := by
    obtain ⟨hl, e⟩ := List.getElem?_eq_some_iff.mp hw
    rw [← e]; exact List.set_getElem_self hl
  rw [sw, h.noal e (by intro m z; cases z)] at er1
  have pm : (((r.fps.set i []).flatten) ++ fe).Perm r.A := by
    have := pS []
    rw [List.append_nil] at this
    exact (List.Perm.append_right fe this).trans pA.symm
  refine ⟨fe, a, d, pv, hf, hE, hv, hfd, hd, hm, rfl, er1, rfl, ⟨fun _ z => z, fun _ _ e _ => e, fun b hb => .inl ?_, fun _ z => .inl z⟩, ⟨perm_nodup pm h.nd, fun b hb => h.nf b (mem_flat hf hb)⟩⟩
  rw [List.append_nil]
  exact pm.mem_iff.mp hb
theorem fld_val {x : SV} {v : V} {fp : List Addr} {f : Nat} {K : KS} (n1 : Nx W E r [] r1.σ r1 fp) (q : RS W r1 v fp x) (g : fldSW Γ x f r1.σ K) (hK : ∀ sv σ', K sv σ' → Fin W E r Q sv σ') :
    rFldI Γ W f v r1.H Q ∨ rFldP Γ W f v r1.H Q ∨ rFldE W E f v r1.H Q := by
  have main : ∀ x : SV, RS W r1 v fp x → (getW r1.σ x fun m => match m with
      | .ins _ c ks _ => match Γ.prop c f with
        | some g => callGW (Γ.call g) [x] noX r1.σ K
        | none => match ixOf f ks with
          | some _ => childSW x f r1.σ fun s => K s r1.σ
          | none => False
      | _ => False) → rFldI Γ W f v r1.H Q ∨ rFldP Γ W f v r1.H Q ∨ rFldE W E f v r1.H Q := fun x q g => by
    obtain ⟨m, gm, g⟩ := getW_is g
    obtain ⟨m', fm, e, rm, _, _⟩ := getW_ex n1.er q n1.sep gm
    subst e
    split at g
    · rename_i z c ks ms
      split at g
      · rename_i gg ep
        refine .inr (.inl ?_)
        have sp := call1 (Wx := fun _ _ _ _ => False) (σV := []) n1 q g (fun c m σ' z => z.elim) hK
        cases rm with
        | ins hc h n r => exact ⟨gg, c, _, _, _, _, rfl, hc, h, ep, sp⟩
        | insF hc f' h n z r => exact ⟨gg, c, _, _, _, _, rfl, hc, h, ep, sp⟩
      · rename_i ep
        split at g
        · obtain ⟨ch, u, fq, rest, g, qc, pm, pt⟩ := childSW_ex n1.er q n1.sep gm g
          rcases pt with ⟨a, o, ea, ho, e'⟩ | ⟨⟨d, z⟩, _⟩
          · refine .inl ?_
            cases rm with
            | ins hc h n r =>
              cases ea
              rw [h] at ho; cases ho
              exact ⟨c, _, _, _, _, u, rfl, hc, h, ep, e', hK _ _ g r1 rfl u fq ((n1.perm pm).less (List.sublist_append_right _ _)) qc⟩
            | insF hc f' h n z r =>
              cases ea
              rw [h] at ho; cases ho
              exact ⟨c, _, _, _, _, u, rfl, hc, h, ep, e', hK _ _ g r1 rfl u fq ((n1.perm pm).less (List.sublist_append_right _ _)) qc⟩
          · cases z
        · exact g.elim
    · exact g.elim
  cases x with
  | xr i =>
    refine .inr (.inr ?_)
    obtain ⟨e0, hw, hs⟩ := q
    obtain ⟨s, es, g⟩ := nthW_ex g
    rcases hs with ⟨c, m, e⟩ | ⟨c, e⟩
    · rw [es] at e; cases e
      dsimp only at g
      cases zb : Nat.beq f f_value with
      | false => rw [zb] at g; exact g.elim
      | true =>
        rw [zb] at g
        dsimp only at g
        obtain ⟨fe, a, d, pv, hf, hE, hv, hfd, hd, hm, nx⟩ := n1.er.exTake es hw
        refine ⟨Nat.eq_of_beq_eq_true zb, a, c, d, pv, hE, hv, hd, ?_⟩
        split at g
        · rename_i zz
          have := hm.fz_nil zz
          subst this
          exact hK _ _ g r1 rfl pv [] n1.none hm
        · obtain ⟨hi, g⟩ := setW_ex g
          exact hK _ _ g ⟨r1.F, r1.H, r1.σ.set i (some (.exg c)), r1.w, r1.fps.set i []⟩ rfl pv fe (n1.none.trans nx) hm
    · rw [es] at e; cases e
      exact g.elim
  | v m => exact main _ q g
  | al j p => exact main _ q g
  | _ => exact q.elim
theorem i_fld {a : QL.E} {f : Nat} (h : tE Γ dp W E Wx (.fld a f) σV H Q) : tUn (fun v H Q => rFldI Γ W f v H Q ∨ rFldP Γ W f v H Q ∨ rFldE W E f v H Q) (tE Γ dp W E Wx a) σV H Q := by
  obtain ⟨r, rfl, er, pre, X, K, ev, hX, hK⟩ := h
  refine ⟨r, rfl, er, pre, X, _, ev, hX, fun x σ1 g r1 e v1 fp1 n1 q1 => ?_⟩
  subst e
  exact fld_val n1 q1 g fun sv σ' k => hK sv σ' k

/-! ### calls -/
theorem i_call {f : Nat} {es : Es} (h : tE Γ dp W E Wx (.call f es []) σV H Q) : tCallS (spD W (Γ.call f)) (WE Wx) (tA Γ dp W E Wx es) σV H Q := by
  obtain ⟨r, rfl, er, pre, X, K, ev, hX, hK⟩ := h
  refine ⟨r, rfl, er, pre, X, _, ev, hX, fun svs σ' g r1 e vs fp n qs => ?_⟩
  subst e
  exact call_sp n qs g (fun c m σ' z => hX c m σ' z) fun sv σ' k => hK sv σ' k
/-- x[i] of an instance -/
def rIxO (Γ : Ctx) (W : Wd) (Wx : WX) (σV : L2.St) : R2 := fun v u H Q => ∃ (g : Nat) (c : Nat) (C a dx : Addr) (fs : List (Str × V)), v = .ref a ∧ W.ins c = some C ∧ H a = some (.ins C dx fs) ∧ Γ.meth c m_getitem = some g ∧ spD W (Γ.call g) [v, u] H Q (WE Wx σV)
theorem i_ix {a i : QL.E} (h : tE Γ dp W E Wx (.ix a i) σV H Q) : tE Γ dp W E Wx a σV H fun x H1 => tE Γ dp W E Wx i σV H1 fun y H2 => rIxA W.K x y H2 Q ∨ rIxO Γ W Wx σV x y H2 Q := by
  obtain ⟨r, rfl, er, pre, X, K, ev, hX, hK⟩ := h
  refine ⟨r, rfl, er, pre, X, _, ev, hX, fun x σ1 g r1 e v1 fp1 n1 q1 => ?_⟩
  subst e
  refine holdE n1 q1 hX pre g fun x' y v2 r4 fx fy n4 qx qy g => ?_
  obtain ⟨m, gm, g⟩ := getW_is g
  obtain ⟨m', fm, e, rm, _, _⟩ := getW_ex n4.er qx n4.sep.right gm
  subst e
  have data : ∀ m, (getW r4.σ x' fun m' => m' = m) → RM W r4.F r4.H m v1 fm → (viewW y r4.σ fun d => ixW m d (fun k => childSW x' k r4.σ fun s => K s r4.σ) fun v => K (.v (.dat v)) r4.σ) → rIxA W.K v1 v2 r4.H Q := fun m gm rm g => by
    obtain ⟨n, fn, g, rn, _, _⟩ := getW_ex n4.er qy n4.sep.left g
    obtain ⟨d, e, g⟩ := pyW_ex g
    exact ixW_ok (K := fun s => K s r4.σ) n4 (List.sublist_append_right _ _) qx n4.sep.right gm rm (rn.pyT e) g fun sv k => hK _ _ k
  cases m' with
  | ins z c ks ms =>
    right
    dsimp only at g
    split at g
    · rename_i gg ep
      have sp := call_sp (Wx := Wx) (σV := σV) (fp := ([] ++ fy) ++ fx) n4 (.cons qx (.cons qy .nil)) g hX fun sv σ' k => hK sv σ' k
      cases rm with
      | ins hc h n r => exact ⟨gg, c, _, _, _, _, rfl, hc, h, ep, sp⟩
      | insF hc f' h n z r => exact ⟨gg, c, _, _, _, _, rfl, hc, h, ep, sp⟩
    · exact g.elim
  | _ => exact .inl (data _ gm rm g)
end
end QL
end
section
set_option linter.all false
set_option maxRecDepth 100000
set_option maxHeartbeats 1000000
/-! SC2: built-in functions as readings. -/
namespace QL
open PySem PySem.Spec PyProof.Rows L2

section
variable {Γ : Ctx} {dp : Bool} {W : Wd} {E : List (Addr × Nat × Addr)} {Wx : WX} {r r1 r2 r4 r5 r6 : Wr} {σV : L2.St} {H : Hp} {Q : VK}
/-- contents, looked at -/
inductive VL (W : Wd) (H : Hp) : List M → List V → Prop
  | nil : VL W H [] []
  | cons {m : M} {v : V} {fp : List Addr} {ms : List M} {vs : List V} (q : RM W (fun _ => True) H m v fp) (t : VL W H ms vs) : VL W H (m :: ms) (v :: vs)
theorem RM.seeT {F : Addr → Prop} {m : M} {v : V} {fp : List Addr} {K : M → Prop} (q : RM W F H m v fp) (nd : fp.Nodup) (g : settleW m K) : ∃ n fq, K n ∧ RM W (fun _ => True) H n v fq := by
  obtain ⟨n, fq, k, _, _, f⟩ := settle_ex q nd g
  exact ⟨n, fq, k, f _ (fun _ _ => trivial) fun _ _ => .inr trivial⟩
theorem RSs.sep_all {F : List Addr} : ∀ {xs : List SV} {vs : List V} {fp : List Addr}, RSs W r xs vs fp → Sep r fp → ∀ (i : Nat) (x : SV) (v : V), xs[i]? = some x → vs[i]? = some v → ∃ fq, RS W r v fq x ∧ Sep r fq
  | _, _, _, .nil, _, i, x, v, e, _ => by simp at e
  | _, _, _, .cons q t, s, 0, x, v, e, e' => by simp at e e'; subst e; subst e'; exact ⟨_, q, s.right⟩
  | _, _, _, .cons q t, s, i + 1, x, v, e, e' => RSs.sep_all (F := F) t s.left i x v (by simpa using e) (by simpa using e')
theorem views_ex : ∀ {xs : List SV} {vs : List V} {fp : List Addr} {K : List M → Prop}, ER W E r → RSs W r xs vs fp → Sep r fp → viewsW xs r.σ K → ∃ ms, K ms ∧ VL W r.H ms vs
  | _, _, _, K, h, .nil, s, g => ⟨[], g, .nil⟩
  | _, _, _, K, h, .cons q t, s, g => by
    obtain ⟨m, fq, g, rm, _, nd⟩ := getW_ex h q s.right g
    obtain ⟨n, fn, g, rn⟩ := rm.seeT nd g
    obtain ⟨ms, k, vl⟩ := views_ex h t s.left g
    exact ⟨n :: ms, k, .cons rn vl⟩
end

/-! ### texts of data -/
theorem sOk_app {x y : Str} (h : PyData.strOk x = true) (h2 : PyData.strOk y = true) : PyData.strOk (x ++ y) = true := strOk_append h h2
theorem sOk_char (c : Char) : c.toNat < 0x110000 := c.valid.elim (fun h => Nat.lt_trans h (by decide)) fun h => h.2
theorem sOk_of {l : List Nat} (h : ∀ c ∈ l, c < 0x110000) : PyData.strOk ⟨l.toArray⟩ = true := by
  unfold PyData.strOk
  rw [Array.all_eq_true_iff_forall_mem]
  intro c hc
  exact decide_eq_true (h c (by simpa using hc))
theorem sOk_ofString (x : String) : PyData.strOk (Str.ofString x) = true := by
  rw [Str.ofString_eq_toList]
  refine sOk_of fun c hc => ?_
  obtain ⟨d, _, rfl⟩ := List.mem_map.mp (by simpa using hc)
  exact sOk_char d
theorem sOk_digits (n : Nat) : ∀ c ∈ (Nat.toDigits 16 n).map Char.toNat, c < 0x110000 := fun c hc => by
  obtain ⟨d, _, rfl⟩ := List.mem_map.mp hc
  exact sOk_char d
theorem sOk_reprChar {q c : Nat} (hc : c < 0x110000) : ∀ d ∈ Builtin.Str.reprChar q c, d < 0x110000 := by
  intro d hd
  have hex : ∀ w : Nat, ∀ d ∈ (List.replicate (w - ((Nat.toDigits 16 c).map Char.toNat).length) 48 ++ (Nat.toDigits 16 c).map Char.toNat), d < 0x110000 := fun w d hd => by
    rcases List.mem_append.mp hd with z | z
    · rw [List.eq_of_mem_replicate z]; decide
    · exact sOk_digits c d z
  have two : ∀ a b : Nat, a < 0x110000 → b < 0x110000 → d ∈ [a, b] → d < 0x110000 := fun a b ha hb hd => by
    rcases List.mem_cons.mp hd with rfl | hd
    · exact ha
    · rw [List.mem_singleton.mp hd]; exact hb
  unfold Builtin.Str.reprChar at hd
  dsimp only at hd
  repeat' split at hd
  all_goals first
    | exact two _ _ (by decide) hc hd
    | exact two _ _ (by decide) (by decide) hd
    | (rw [List.mem_singleton.mp hd]; exact hc)
    | (rcases List.mem_append.mp hd with hd | hd
       · exact two _ _ (by decide) (by decide) hd
       · exact hex _ d hd)
theorem sOk_repr {x : Str} (h : PyData.strOk x = true) : PyData.strOk (reprText x) = true := by
  have hq : reprQuote x < 0x110000 := by unfold reprQuote; split <;> decide
  have hx : ∀ c ∈ x.cps.toList, c < 0x110000 := fun c hc => by
    unfold PyData.strOk at h
    rw [Array.all_eq_true_iff_forall_mem] at h
    exact of_decide_eq_true (h c (by simpa using hc))
  have key : ∀ (l : List Nat) (acc : Array Nat), (∀ c ∈ l, c < 0x110000) → (∀ c ∈ acc.toList, c < 0x110000) → ∀ c ∈ (l.foldl (fun out c => out ++ (Builtin.Str.reprChar (reprQuote x) c).toArray) acc).toList, c < 0x110000 := fun l => by
    induction l with
    | nil => intro acc _ h2; exact h2
    | cons a l ih =>
      intro acc h1 h2
      refine ih _ (fun c hc => h1 c (List.mem_cons_of_mem _ hc)) fun c hc => ?_
      rw [Array.toList_append] at hc
      rcases List.mem_append.mp hc with z | z
      · exact h2 c z
      · exact sOk_reprChar (h1 a List.mem_cons_self) c (by simpa using z)
  unfold reprText PyData.strOk
  rw [Array.all_eq_true_iff_forall_mem]
  intro c hc
  refine decide_eq_true ?_
  rcases Array.mem_push.mp hc with z | z
  · rw [← Array.foldl_toList] at z
    exact key x.cps.toList #[reprQuote x] hx (fun c hc => by rw [show c = reprQuote x by simpa using hc]; exact hq) c (Array.mem_toList_iff.mpr z)
  · rw [z]; exact hq
theorem sOk_join {sep : Str} (hs : PyData.strOk sep = true) : ∀ {l : List Str}, (∀ x ∈ l, PyData.strOk x = true) → PyData.strOk (Str.join sep l) = true
  | [], _ => by unfold Str.join; exact sOk_ofString ""
  | [x], h => by unfold Str.join; exact h x (by simp)
  | x :: y :: r, h => by
    unfold Str.join
    exact sOk_app (sOk_app (h x (by simp)) hs) (sOk_join hs fun z hz => h z (List.mem_cons_of_mem _ hz))
theorem sOk_textFrom : ∀ {l : List Str} {k : Nat} {acc : Str}, PyData.strOk acc = true → (∀ x ∈ l, PyData.strOk x = true) → PyData.strOk (textFrom k acc l) = true
  | [], k, acc, h, _ => by unfold textFrom; exact h
  | x :: r, k, acc, h, g => by
    unfold textFrom
    exact sOk_textFrom (sOk_app (sOk_app h (sOk_ofString _)) (g x (by simp))) fun z hz => g z (List.mem_cons_of_mem _ hz)
mutual
theorem sOk_shown : ∀ {d : D}, d.canLay0 = true → dep d < 1000 → PyData.strOk d.shown = true
  | .none, _, _ => sOk_ofString _
  | .bool b, _, _ => by cases b <;> exact sOk_ofString _
  | .int i, _, _ => sOk_ofString _
  | .str x, h, _ => sOk_repr (by simpa [PyData.canLay0] using h)
  | .list ds, h, g => by
    show PyData.strOk (listText (PyData.shownAll ds)) = true
    unfold listText
    exact sOk_app (sOk_textFrom (sOk_ofString _) (sOk_shownAll (by simpa [PyData.canLay0] using h) (by simp only [dep] at g; omega))) (sOk_ofString _)
  | .tuple ds, h, g => by
    show PyData.strOk (tupleText (PyData.shownAll ds)) = true
    unfold tupleText
    exact sOk_app (sOk_app (sOk_ofString _) (sOk_join (sOk_ofString _) (sOk_shownAll (by simpa [PyData.canLay0] using h) (by simp only [dep] at g; omega)))) (sOk_ofString _)
  | .dict _, _, g => by simp [dep] at g
theorem sOk_shownAll : ∀ {ds : List D}, PyData.canLayAll0 ds = true → depAll ds < 1000 → ∀ x ∈ PyData.shownAll ds, PyData.strOk x = true
  | [], _, _, x, hx => by simp [PyData.shownAll] at hx
  | d :: ds, h, g, x, hx => by
    simp only [PyData.canLayAll0, Bool.and_eq_true] at h
    simp only [PyData.shownAll] at hx
    simp only [depAll] at g
    rcases List.mem_cons.mp hx with rfl | hx
    · exact sOk_shown h.1 (by omega)
    · exact sOk_shownAll h.2 (by omega) x hx
end
mutual
theorem noDict : ∀ {d : D}, dep d < 1000 → d.hasDict = false
  | .none, _ => rfl
  | .bool b, _ => rfl
  | .int i, _ => rfl
  | .str x, _ => rfl
  | .list ds, g => by simp only [PyData.hasDict]; exact noDictAll (by simp only [dep] at g; omega)
  | .tuple ds, g => by simp only [PyData.hasDict]; exact noDictAll (by simp only [dep] at g; omega)
  | .dict _, g => by simp [dep] at g
theorem noDictAll : ∀ {ds : List D}, depAll ds < 1000 → PyData.hasDictAll ds = false
  | [], _ => rfl
  | d :: ds, g => by
    simp only [depAll] at g
    simp only [PyData.hasDictAll, noDict (d := d) (by omega), noDictAll (ds := ds) (by omega), Bool.or_self]
end
def rReprD (K : PySem.W.Frag) : List V → Hp → VK → Prop := fun xs H Q => ∃ x d, xs = [x] ∧ Dp K H x d ∧ isDisp d = true ∧ d.showable = true ∧ SeqAt.shaped d = true ∧ d.hasDict = false ∧ d.shown.length ≤ sizeLine ∧ Q (.str d.shown) H
theorem cr_reprD {X : Cx} (hg : X.A.guards = some []) (hu : X.A.units + 67 < cLine) : CallR X (.builtin "repr") (rReprD X.K) := by
  intro pins s σ H xs us Q I r h
  obtain ⟨x, d, rfl, dp, hd, hs, sh, nd, sz, q⟩ := h
  obtain ⟨u, rfl, rx⟩ := vals1 r
  obtain ⟨as, r1⟩ := Dp.reads I d x u dp rx
  have dle : d.depth ≤ 64 := of_decide_eq_true (Bool.and_eq_true_iff.mp sh).2
  have fin : ∀ h' u tk, (∀ b o, s.heap.get? b = some o → h'.get? b = some o) → EP X pins σ Q (.str d.shown u) { s with heap := h', toks := tk } := fun h' u tk hk => ⟨.str d.shown, H, I.kept hk, ⟨_, rfl⟩, q⟩
  cases d with
  | none => cases dp; cases rx; exact PySem.P.repr_of_none (fin s.heap _ _ fun _ _ e => e)
  | bool b => cases dp; cases rx; exact PySem.P.repr_of_bool (fin s.heap _ _ fun _ _ e => e)
  | int i =>
    cases dp
    obtain ⟨t, rfl⟩ := rx
    exact PySem.P.repr_of_int (of_decide_eq_true hs) (fin s.heap _ _ fun _ _ e => e)
  | str y =>
    cases dp
    obtain ⟨t, rfl⟩ := rx
    exact PySem.P.repr_of_str (fin s.heap _ _ fun _ _ e => e) sz
  | list ds =>
    obtain ⟨a, rfl⟩ := PyProof.Rows.isRef_of_reads r1 rfl
    exact repr_of_reads' r1 hs (PyData.noDict_hsm nd) hg (by omega) (fun _ _ e => e) fin sz
  | tuple ds =>
    obtain ⟨a, rfl⟩ := PyProof.Rows.isRef_of_reads r1 rfl
    exact repr_of_reads' r1 hs (PyData.noDict_hsm nd) hg (by omega) (fun _ _ e => e) fin sz
  | _ => cases hd
end QL
end
section
set_option linter.all false
set_option maxRecDepth 100000
set_option maxHeartbeats 1000000
/-! SC3: calls of built-in functions. -/
namespace QL
open PySem PySem.Spec PyProof.Rows L2

def rListK (K : PySem.W.Frag) : List V → Hp → VK → Prop := fun xs H Q => (∃ p ys, xs = [.ref p] ∧ (SqL K H p ys ∨ SqT K H p ys) ∧ ∀ l, H l = none → Q (.ref l) (upd H l (.lst ys))) ∨
  ∃ (a : Addr) (kvs : List (Key × V)), xs = [.ref a] ∧ Rd H a (.dK kvs) ∧ ∀ p, H p = none → Q (.ref p) (upd H p (.lst (kvs.map fun kv => kV kv.1)))
def rPrim (K : PySem.W.Frag) : Prim → List V → Hp → VK → Prop
  | .abs => fun xs H Q => ∃ i, xs = [.int i] ∧ Q (.int (if i < 0 then -i else i)) H
  | .int => fun xs H Q => (∃ i, xs = [.int i] ∧ Q (.int i) H) ∨ ∃ k, xs = [.bl k] ∧ Q (.int (if k then 1 else 0)) H
  | .max2 => fun xs H Q => ∃ i j, xs = [.int i, .int j] ∧ Q (.int (if j > i then j else i)) H
  | .min2 => fun xs H Q => ∃ i j, xs = [.int i, .int j] ∧ Q (.int (if j < i then j else i)) H
  | .any => rAny K
  | .all => rAll K
  | .repr => rReprD K
  | .str => fun xs H Q => (∃ i, xs = [.int i] ∧ i.natAbs.log2 < 1920 ∧ Q (.str (toString i)) H) ∨ ∃ a, xs = [.str a] ∧ Q (.str a) H
  | .lst => rListK K
  | .tup => fun xs H Q => ∃ p ys, xs = [.ref p] ∧ ((SqL K H p ys ∧ ∀ l, H l = none → Q (.ref l) (upd H l (.tup ys))) ∨ (SqT K H p ys ∧ Q (.ref p) H))
  | _ => fun _ _ _ => False
def primF : Prim → Value
  | .abs => .builtin "abs"
  | .int => .type "int"
  | .max2 => .builtin "max"
  | .min2 => .builtin "min"
  | .any => .builtin "any"
  | .all => .builtin "all"
  | .repr => .builtin "repr"
  | .str => .type "str"
  | .lst => .type "list"
  | .tup => .type "tuple"
  | _ => .none
theorem callOr {X : Cx} {f : Value} {a b : List V → Hp → VK → Prop} (h : CallR X f a) (h' : CallR X f b) : CallR X f (fun xs H Q => a xs H Q ∨ b xs H Q) := by
  intro pins s σ H xs us Q I rv q
  rcases q with q | q
  · exact h pins s σ H xs us Q I rv q
  · exact h' pins s σ H xs us Q I rv q
theorem callNever {X : Cx} {f : Value} : CallR X f fun _ _ _ => False := fun _ _ _ _ _ _ _ _ _ q => q.elim
theorem cr_prim {X : Cx} (hc : X.calm = true) (hg : X.A.guards = some []) (hu : X.A.units + 67 < cLine) : ∀ p : Prim, CallR X (primF p) (rPrim X.K p)
  | .abs => call_abs
  | .int => call_int1
  | .max2 => call_max2 hc
  | .min2 => call_min2 hc
  | .any => cr_any hc
  | .all => cr_all hc
  | .repr => cr_reprD hg hu
  | .str => callOr call_str_int SkE.call_str_str
  | .lst => callOr call_list_of (call_listD hc)
  | .tup => call_tuple_of
  | .len => callNever
  | .dic => callNever
  | .set => callNever
  | .max1 => callNever
  | .min1 => callNever
  | .maxd => callNever
  | .sorted => callNever
  | .sortedstr => callNever
  | .lst0 => callNever
  | .dic0 => callNever
  | .set0 => callNever
/-- what is served so far -/
def sup : Prim → Bool
  | .abs | .int | .max2 | .min2 | .any | .all | .repr | .str | .lst | .tup => true
  | _ => false
section
variable {Γ : Ctx} {dp : Bool} {W : Wd} {E : List (Addr × Nat × Addr)} {Wx : WX} {r r1 r2 r4 r5 r6 : Wr} {σV : L2.St} {H : Hp} {Q : VK}
theorem VL.one {m : M} {vs : List V} (q : VL W H [m] vs) : ∃ v fp, vs = [v] ∧ RM W (fun _ => True) H m v fp := by
  cases q with
  | cons q t => cases t; exact ⟨_, _, rfl, q⟩
theorem VL.two {m n : M} {vs : List V} (q : VL W H [m, n] vs) : ∃ v u fp fq, vs = [v, u] ∧ RM W (fun _ => True) H m v fp ∧ RM W (fun _ => True) H n u fq := by
  cases q with
  | cons q t => cases t with
    | cons q2 t => cases t; exact ⟨_, _, _, _, rfl, q, q2⟩
theorem RM.toInt {F : Addr → Prop} {i : Int} {v : V} {fp : List Addr} (q : RM W F H (.dat (.int i)) v fp) : v = .int i := by
  cases q with
  | dat q => cases q; rfl
theorem RM.toBl {F : Addr → Prop} {b : Bool} {v : V} {fp : List Addr} (q : RM W F H (.dat (.bool b)) v fp) : v = .bl b := by
  cases q with
  | dat q => cases q; rfl
theorem RM.toStr {F : Addr → Prop} {x : Str} {v : V} {fp : List Addr} (q : RM W F H (.dat (.str x)) v fp) : v = .str x ∧ PyData.strOk x = true ∧ x.length ≤ sizeLine := by
  cases q with
  | dat q => cases q with
    | str ok ln => exact ⟨rfl, ok, ln⟩
theorem listW_ex {F : Addr → Prop} {m : M} {v : V} {fp : List Addr} {K : List D → Prop} (q : RM W F H m v fp) (g : listW m K) : ∃ ds p vs, K ds ∧ v = .ref p ∧ SqL W.K H p vs ∧ RDs W.K F H ds vs ∧ ds.length ≤ sizeLine := by
  simp only [listW] at g
  split at g
  · rename_i z
    obtain ⟨ds, p, vs, g, e, h, r, ln⟩ := isList_ex q z g
    exact ⟨ds, p, vs, g, e, .inl (.inl h), r, ln⟩
  · exact g.elim
theorem bools_vs {K : PySem.W.Frag} {F : Addr → Prop} : ∀ {ds : List D} {vs : List V} {bs : List Bool}, RDs K F H ds vs → boolsOf ds = some bs → vs = bs.map V.bl
  | [], _, bs, .nil, e => by cases e; rfl
  | d :: ds, _, bs, .cons r t, e => by
    cases r with
    | bool =>
      simp only [boolsOf, Option.map_eq_some_iff] at e
      obtain ⟨bs', e, rfl⟩ := e
      rw [bools_vs t e]; rfl
    | _ => simp [boolsOf] at e
theorem strOk_int (i : Int) : PyData.strOk (toString i : String) = true := sOk_ofString _
theorem prim1_ok {p : Prim} {m : M} {v : V} {fp fq : List Addr} {K : M → Prop} (hs : sup p = true) (hc : copies p = false) (n : Nx W E r [] r4.σ r4 fq) (q : RM W (fun _ => True) r4.H m v fp) (g : prim1W p m K) (hK : ∀ m, K m → Fin W E r Q (.v m) r4.σ) : rPrim W.K p [v] r4.H Q := by
  cases p with
  | int =>
    have g : intP m K := g
    unfold intP at g
    split at g
    · rw [q.toInt]; exact .inl ⟨_, rfl, (hK _ g).dat n .int⟩
    · rw [q.toBl]; exact .inr ⟨_, rfl, (hK _ g).dat n .int⟩
    · exact g.elim
  | abs =>
    have g : absP m K := g
    unfold absP at g
    split at g
    · rw [q.toInt]; exact ⟨_, rfl, (hK _ g).dat n .int⟩
    · exact g.elim
  | str =>
    have g : strP m K := g
    unfold strP at g
    split at g
    · rw [q.toInt]
      rename_i i
      obtain ⟨⟨h1, h2⟩, g⟩ := g
      exact .inl ⟨_, rfl, by omega, (hK _ g).dat n (.str (strOk_int _) (by rw [← sizeL]; exact h2))⟩
    · obtain ⟨rfl, ok, ln⟩ := q.toStr
      exact .inr ⟨_, rfl, (hK _ g).dat n (.str ok ln)⟩
    · exact g.elim
  | repr =>
    obtain ⟨d, e, ⟨h1, h2, h3, h4⟩, g⟩ := pyW_ex (show pyW m _ from g)
    have rd := q.pyT e
    obtain ⟨dp, sh⟩ := rd.shaped h3
    have h64 := okD_le h3
    rw [sizeL] at h4
    exact ⟨v, d, rfl, dp, h1, h2, sh, noDict (by omega), h4, (hK _ g).dat n (.str (sOk_shown (rd.lay (by omega)).1 (by omega)) h4)⟩
  | any =>
    obtain ⟨ds, p, us, ⟨bs, e, g⟩, rfl, hl, rd, ln⟩ := listW_ex q (show listW m _ from g)
    have := bools_vs rd e
    subst this
    exact ⟨p, bs, rfl, hl, (hK _ g).dat n .bool⟩
  | all =>
    obtain ⟨ds, p, us, ⟨bs, e, g⟩, rfl, hl, rd, ln⟩ := listW_ex q (show listW m _ from g)
    have := bools_vs rd e
    subst this
    exact ⟨p, bs, rfl, hl, (hK _ g).dat n .bool⟩
  | max2 => exact (show False from g).elim
  | min2 => exact (show False from g).elim
  | lst => cases hc
  | tup => cases hc
  | _ => cases hs
theorem prim2_ok {p : Prim} {m m' : M} {v v' : V} {fp fp' fq : List Addr} {K : M → Prop} (hs : sup p = true) (n : Nx W E r [] r4.σ r4 fq) (q : RM W (fun _ => True) r4.H m v fp) (q' : RM W (fun _ => True) r4.H m' v' fp') (g : prim2W p m m' K) (hK : ∀ m, K m → Fin W E r Q (.v m) r4.σ) : rPrim W.K p [v, v'] r4.H Q := by
  cases p with
  | max2 =>
    have g : int2P _ m m' K := g
    unfold int2P at g
    split at g
    · rw [q.toInt, q'.toInt]; exact ⟨_, _, rfl, (hK _ g).dat n .int⟩
    · exact g.elim
  | min2 =>
    have g : int2P _ m m' K := g
    unfold int2P at g
    split at g
    · rw [q.toInt, q'.toInt]; exact ⟨_, _, rfl, (hK _ g).dat n .int⟩
    · exact g.elim
  | maxd => cases hs
  | _ => exact (show False from g).elim
theorem RKs.keys {K : PySem.W.Frag} {F : Addr → Prop} : ∀ {ds : List (D × D)} {kvs : List (Key × V)}, RKs K F H ds kvs → RDs K F H (ds.map (·.1)) (kvs.map fun kv => kV kv.1)
  | _, _, .nil => .nil
  | _, _, .cons _ rk _ t => .cons rk (RKs.keys t)
/-- those that copy -/
theorem primC_ok {p : Prim} {m : M} {v : V} {fm fq : List Addr} {K : M → Prop} (hs : sup p = true) (hc : copies p = true) (n : Nx W E r [] r4.σ r4 fq) (q : RM W r4.F r4.H m v fm) (g : primW p [m] K) (hK : ∀ m, K m → Fin W E r Q (.v m) r4.σ) : rPrim W.K p [v] r4.H Q := by
  have seq : ∀ K', seqW m K' → ∃ ds a vs, K' ds ∧ v = .ref a ∧ (SqL W.K r4.H a vs ∨ SqT W.K r4.H a vs) ∧ RDs W.K r4.F r4.H ds vs ∧ ds.length ≤ sizeLine := fun K' g => by
    obtain ⟨ds, a, vs, k, e, h, rd, ln⟩ := seqW_ex q g
    exact ⟨ds, a, vs, k, e, h.symm, rd, ln⟩
  cases p with
  | lst =>
    have g : keysP m K := g
    unfold keysP at g
    split at g
    · cases q with
      | dic h ln rk => exact .inr ⟨_, _, rfl, .inl h, fun l hl => (hK _ g).newSl n rk.keys (by simpa using ln) hl⟩
    · cases q with
      | dat q => cases q with
        | dict f h ln rk => exact .inr ⟨_, _, rfl, .inl h, fun l hl => (hK _ g).newSl n rk.keys (by simpa using ln) hl⟩
    · obtain ⟨ds, a, vs, k, rfl, h, rd, ln⟩ := seq _ g
      exact .inl ⟨a, vs, rfl, h, fun l hl => (hK _ k).newSl n rd ln hl⟩
  | tup =>
    have g : seqW m _ := g
    simp only [seqW] at g
    split at g
    · rename_i z
      rw [Bool.or_eq_true] at z
      rcases z with z | z
      · obtain ⟨ds, a, vs, k, rfl, h, rd, ln⟩ := isList_ex q z g
        exact ⟨a, vs, rfl, .inl ⟨.inl (.inl h), fun l hl => (hK _ k).newTd n rd ln hl⟩⟩
      · obtain ⟨ds, a, vs, k, rfl, h, rd, ln⟩ := isTup_ex q z g
        exact ⟨a, vs, rfl, .inr ⟨h.sq, (hK _ k).dat n (.tuple h ln rd)⟩⟩
    · exact g.elim
  | dic => cases hs
  | set => cases hs
  | _ => cases hc
theorem i_prim {p : Prim} {es : Es} (hs : sup p = true) (h : tE Γ dp W E Wx (.prim p es) σV H Q) : tCB (rPrim W.K p) (tA Γ dp W E Wx es) σV H Q := by
  obtain ⟨r, rfl, er, pre, X, K, ev, hX, hK⟩ := h
  refine ⟨r, rfl, er, pre, X, _, ev, hX, fun svs σ' g r1 e vs fp n qs => ?_⟩
  subst e
  have g : match copies p with
    | true => copySW p svs r1.σ K
    | false => lookSW p svs r1.σ K := by
    cases p <;> first | exact g | cases hs
  cases hc : copies p with
  | true =>
    rw [hc] at g
    have g : copySW p svs r1.σ K := g
    match svs, qs, g with
    | [x], .cons q .nil, g =>
      obtain ⟨r2, m, fq, fn, n2, g, rm, _, _, eH⟩ := settleSW_ex (K := fun m σ1 => primW p [m] fun m => K (.v m) σ1) n.er q n.sep g
      rw [← eH]
      exact primC_ok hs hc (n.trans n2) rm g fun m k => hK _ _ k
    | [], _, g => exact g.elim
    | _ :: _ :: _, _, g => exact g.elim
  | false =>
    rw [hc] at g
    obtain ⟨ms, g, vl⟩ := views_ex n.er qs n.sep (show viewsW svs r1.σ _ from g)
    match ms, vl, g with
    | [], _, g => cases p <;> first | exact (show False from g).elim | cases hs
    | [m], vl, g =>
      obtain ⟨v, fp, rfl, q⟩ := vl.one
      exact prim1_ok hs hc n q g fun m k => hK _ _ k
    | [m, m'], vl, g =>
      obtain ⟨v, u, fp, fq, rfl, q, q'⟩ := vl.two
      exact prim2_ok hs n q q' g fun m k => hK _ _ k
    | _ :: _ :: _ :: _, _, g => exact g.elim
end
end QL
end
section
set_option linter.all false
set_option maxRecDepth 100000
set_option maxHeartbeats 1000000
/-! SC4: methods of lists and texts. -/
namespace QL
open PySem PySem.Spec PyProof.Rows L2

section
variable {Γ : Ctx} {dp : Bool} {W : Wd} {E : List (Addr × Nat × Addr)} {Wx : WX} {r r1 r2 r4 r5 r6 : Wr} {σV : L2.St} {H : Hp} {Q : VK}
/-- an own thing is changed where it stands -/
theorem mut_ex (h : ER W E r4) {i : Nat} {p : List Nat} {v1 : V} {c m' : M} {K : Env → Prop} (q : RS W r4 v1 [] (.al i p)) (gm : getW r4.σ (.al i p) fun m => m = c) (g : setMW r4.σ i p m' fun σ2 => mapW (clrB i p) σ2 K) :
    ∃ fq, RM W r4.F r4.H c v1 fq ∧ fq.Nodup ∧ (∀ a ∈ fq, a ∈ r4.A) ∧ ∀ (H' : Hp) (fq' fr ex : List Addr), (∀ a o, r4.H a = some o → a ∉ fq → H' a = some o) → (∀ a ∈ fq, H' a ≠ none) → RM W r4.F H' m' v1 fq' → Sep r4 ex → (∀ a ∈ ex, r4.H a ≠ none) →
      (fq' ++ fr).Nodup → (∀ a ∈ fq' ++ fr, a ∈ fq ∨ a ∈ ex) → ∃ r5 : Wr, Nx W E r4 ex r5.σ r5 fr ∧ K r5.σ ∧ r5.H = H' ∧ r5.F = r4.F := by
  obtain ⟨_, m, v0, c0, e1, e2, e3, w⟩ := q
  obtain ⟨s', e, gm⟩ := nthW_ex gm
  rw [e1] at e; cases e
  obtain ⟨c', e4, gm⟩ := atW_ex gm
  rw [e3] at e4; cases e4
  subst gm
  obtain ⟨s', e, g⟩ := nthW_ex g
  rw [e1] at e; cases e
  obtain ⟨m2, es, g⟩ := setAtW_ex g
  obtain ⟨_, g⟩ := setW_ex g
  have g := mapW_eq g
  obtain ⟨v2, u, fq, hw, wk, rc, fA, nd, put⟩ := h.put e1 e3
  rw [e2] at hw; cases hw
  cases w.inj wk
  refine ⟨fq, rc, nd, fA, fun H' fq' fr ex hH hq rm sx tx nd' mem => ?_⟩
  have apx : ∀ a ∈ ex, a ∉ fq := fun a ha z => sx.apart a ha (fA a z)
  have dF : ∀ a, r4.F a → H' a ≠ none := fun a f => by
    cases z : r4.H a with
    | none => exact absurd z (h.df a f)
    | some o => rw [hH a o z fun y => h.nf a (fA a y) f]; simp
  obtain ⟨fps', er, st, ndR, inn⟩ := put r4.F H' m' m2 fq' fr ex (clrB i p) (fun _ z => z) hH (fun _ => .inl) dF rm es nd' (fun a ha => by
    rcases mem a ha with z | z
    · exact ⟨.inl z, h.nf a (fA a z), hq a z⟩
    · refine ⟨.inr (.inl ⟨z, sx.apart a z⟩), sx.nf a z, ?_⟩
      cases y : r4.H a with
      | none => exact absurd y (tx a z)
      | some o => rw [hH a o y (apx a z)]; simp) (.inl rfl)
  refine ⟨⟨r4.F, H', (r4.σ.set i (some (.v m2))).map (clrB i p), r4.w, fps'⟩, ⟨rfl, er, rfl, st, ⟨ndR, fun a ha => ?_⟩⟩, g, rfl, rfl⟩
  rcases mem a (List.mem_append_right _ ha) with z | z
  · exact h.nf a (fA a z)
  · exact sx.nf a z
theorem upd_keep {l a : Addr} {o o' : HO} (ne : a ≠ l) (e : H a = some o') : L2.upd H l o a = some o' := by rw [upd_ne ne]; exact e
theorem RMs.updAt {F : Addr → Prop} {ms : List M} {vs : List V} {fp : List Addr} {l : Addr} {o : HO} (q : RMs W F H ms vs fp) (nf : ¬ F l) (n : l ∉ fp) : RMs W F (L2.upd H l o) ms vs fp :=
  q.keep (fun _ z => z) (fun a o' f e => upd_keep (fun z => nf (by rw [← z]; exact f)) e) fun a ha o' e => upd_keep (fun z => n (by rw [← z]; exact ha)) e
theorem RM.updAt {F : Addr → Prop} {m : M} {v : V} {fp : List Addr} {l : Addr} {o : HO} (q : RM W F H m v fp) (nf : ¬ F l) (n : l ∉ fp) : RM W F (L2.upd H l o) m v fp :=
  q.keep (fun _ z => z) (fun a o' f e => upd_keep (fun z => nf (by rw [← z]; exact f)) e) fun a ha o' e => upd_keep (fun z => n (by rw [← z]; exact ha)) e
theorem RDs.updAt {F : Addr → Prop} {ds : List D} {vs : List V} {l : Addr} {o : HO} (q : RDs W.K F H ds vs) (nf : ¬ F l) : RDs W.K F (L2.upd H l o) ds vs :=
  q.keep (fun _ z => z) fun a o' f e => upd_keep (fun z => nf (by rw [← z]; exact f)) e
/-- an own list at its place -/
theorem ownList {F : Addr → Prop} {c : M} {v : V} {fq : List Addr} (q : RM W F H c v fq) (hc : (∃ ds, c = .sl ds) ∨ ∃ ms, c = .lst ms) : ∃ l vs ms fp, v = .ref l ∧ fq = l :: fp ∧ H l = some (.lst vs) ∧ RMs W F H ms vs fp ∧ ms.length ≤ sizeLine ∧ ((∃ ds, c = .sl ds ∧ ms = ds.map .dat) ∨ c = .lst ms) := by
  rcases hc with ⟨ds, rfl⟩ | ⟨ms, rfl⟩
  · cases q with
    | sl h ln r => exact ⟨_, _, ds.map .dat, [], rfl, rfl, h, RMs.ofDs r, by simpa using ln, .inl ⟨ds, rfl, rfl⟩⟩
  · cases q with
    | lst h ln r => exact ⟨_, _, ms, _, rfl, rfl, h, r, ln, .inr rfl⟩
/-- a list made anew of things, as mkL has it or as lst -/
def IsL (m : M) (ms : List M) : Prop := m = .lst ms ∨ ∃ ds, m = .sl ds ∧ ms = ds.map .dat
theorem RMs.toDs {F : Addr → Prop} : ∀ {ds : List D} {vs : List V} {fp : List Addr}, RMs W F H (ds.map .dat) vs fp → RDs W.K F H ds vs ∧ fp = []
  | [], _, _, .nil => ⟨.nil, rfl⟩
  | d :: ds, _, _, .cons r t => by
    obtain ⟨a, b⟩ := RMs.toDs t
    cases r with
    | dat r => exact ⟨.cons r a, by rw [b]; rfl⟩
theorem IsL.rm {F : Addr → Prop} {m : M} {ms : List M} {l : Addr} {vs : List V} {fp : List Addr} (z : IsL m ms) (h : H l = some (.lst vs)) (ln : ms.length ≤ sizeLine) (r : RMs W F H ms vs fp) : RM W F H m (.ref l) (l :: fp) := by
  rcases z with rfl | ⟨ds, rfl, rfl⟩
  · exact .lst h ln r
  · obtain ⟨a, b⟩ := RMs.toDs r
    subst b
    exact .sl h (by simpa using ln) a
theorem RMs.split {F : Addr → Prop} {e : M} : ∀ {ms : List M} {vs : List V} {fp : List Addr} {j : Nat}, RMs W F H ms vs fp → ms[j]? = some e → ∃ u fe rest, vs[j]? = some u ∧ RM W F H e u fe ∧ fp.Perm (rest ++ fe) ∧ RMs W F H (ms.eraseIdx j) (vs.eraseIdx j) rest
  | _, _, _, _, .nil, h => by simp at h
  | _, _, _, 0, .cons (fp := fp) (fq := fq) (v := v) r t, h => by
    simp at h; subst h
    exact ⟨v, fp, fq, rfl, r, List.perm_append_comm, t⟩
  | _, _, _, j + 1, .cons (fp := fp) (fq := fq) (v := v) r t, h => by
    obtain ⟨u, fe, rest, h1, h2, h3, h4⟩ := RMs.split (j := j) t (by simpa using h)
    refine ⟨u, fe, fp ++ rest, by simpa using h1, h2, ?_, .cons r h4⟩
    rw [List.append_assoc]
    exact List.Perm.append_left _ h3
theorem RMs.take {F : Addr → Prop} : ∀ (k : Nat) {ms : List M} {vs : List V} {fp : List Addr}, RMs W F H ms vs fp → ∃ f1 f2, fp = f1 ++ f2 ∧ RMs W F H (ms.take k) (vs.take k) f1 ∧ RMs W F H (ms.drop k) (vs.drop k) f2
  | 0, _, _, fp, r => ⟨[], fp, rfl, .nil, r⟩
  | k + 1, _, _, _, .nil => ⟨[], [], rfl, .nil, .nil⟩
  | k + 1, _, _, _, .cons (fp := fp) r t => by
    obtain ⟨f1, f2, e, a, b⟩ := RMs.take k t
    exact ⟨fp ++ f1, f2, by rw [e, List.append_assoc], .cons r a, b⟩

/-! ### the rules -/
def rMut : BM → V → List V → Hp → VK → Prop
  | .append => rAppend
  | .extend => rExtend
  | .pop => fun x xs H Q => rPop x xs H Q ∨ rPopAt x xs H Q
  | .reverse => rReverse
  | .clear => rClear
  | .insert => fun x vs H Q => ∃ (l : Addr) (xs : List V) (i : Int) (y : V), x = .ref l ∧ vs = [.int i, y] ∧ H l = some (.lst xs) ∧ xs.length < sizeLine ∧ 0 ≤ i ∧ i < 2 ^ 63 ∧ Q .non (upd H l (.lst (xs.take i.toNat ++ [y] ++ xs.drop i.toNat)))
  | _ => fun _ _ _ _ => False
def bmId : BM → String
  | .append => "list.append"
  | .extend => "list.extend"
  | .pop => "list.pop"
  | .reverse => "list.reverse"
  | .clear => "list.clear"
  | .insert => "list.insert"
  | _ => ""
def supM : BM → Bool
  | .append | .extend | .pop | .reverse | .clear | .insert => true
  | _ => false
theorem mtOr {X : Cx} {id : String} {a b : V → List V → Hp → VK → Prop} (h : MtR X id a) (h' : MtR X id b) : MtR X id (fun x xs H Q => a x xs H Q ∨ b x xs H Q) := by
  intro pins s σ H x xs v us Q I rx rv q
  rcases q with q | q
  · exact h pins s σ H x xs v us Q I rx rv q
  · exact h' pins s σ H x xs v us Q I rx rv q
theorem mt_mut {X : Cx} {k : BM} (h : supM k = true) : MtR X (bmId k) (rMut k) := by
  cases k <;> first
    | exact mt_append
    | exact mt_extend
    | exact mtOr mt_pop mt_popAt
    | exact mt_reverse
    | exact mt_clear
    | exact mt_insert
    | cases h
theorem listE {F : Addr → Prop} {c : M} {v : V} {fq : List Addr} (q : RM W F H c v fq) (hc : (∃ ds, c = .sl ds) ∨ ∃ ms, c = .lst ms) : ∃ l vs ms fp, v = .ref l ∧ fq = l :: fp ∧ H l = some (.lst vs) ∧ RMs W F H ms vs fp ∧ ms.length ≤ sizeLine ∧ IsL c ms := by
  obtain ⟨l, vs, ms, fp, e1, e2, h, r, ln, z⟩ := ownList q hc
  exact ⟨l, vs, ms, fp, e1, e2, h, r, ln, z.elim (fun ⟨ds, a, b⟩ => .inr ⟨ds, a, b⟩) .inl⟩
/-- the things of an own list -/
def lsM : M → List M
  | .sl ds => ds.map .dat
  | .lst ms => ms
  | _ => []
theorem IsL.ls {c : M} {ms : List M} (h : IsL c ms) : lsM c = ms := by
  rcases h with rfl | ⟨ds, rfl, rfl⟩ <;> rfl
theorem addL_is (ds : List D) (a : M) : IsL (addL ds a) (ds.map .dat ++ [a]) := by
  unfold addL
  split
  · exact .inr ⟨_, rfl, by simp⟩
  · exact .inl rfl
theorem insL_is (ds : List D) (k : Int) (a : M) : IsL (insL ds k a) (insAt (ds.map .dat) k a) := by
  unfold insL
  split
  · exact .inr ⟨_, rfl, by simp [insAt, List.map_take, List.map_drop]⟩
  · exact .inl rfl
/-- what is wanted, told of the things: result, list behind -/
def MutL (k : BM) (ms : List M) (as : List M) (res : M) (ms' : List M) : Prop := match k, as with
  | .append, [a] => res = .dat .none ∧ ms' = ms ++ [a] ∧ ms.length < 16777216
  | .extend, [a] => res = .dat .none ∧ ∃ es : List D, (listW a fun es' => es' = es) ∧ ms' = ms ++ es.map .dat ∧ ms.length + es.length ≤ 16777216
  | .pop, [] => ms[ms.length - 1]? = some res ∧ ms' = ms.eraseIdx (ms.length - 1)
  | .pop, [.dat (.int i)] => ∃ j, L2.ixN ms.length i = some j ∧ ms[j]? = some res ∧ ms' = ms.eraseIdx j
  | .clear, [] => res = .dat .none ∧ ms' = []
  | .reverse, [] => res = .dat .none ∧ ms' = ms.reverse
  | .insert, [.dat (.int i), a] => res = .dat .none ∧ ms' = insAt ms i a ∧ 0 ≤ i ∧ i < 2 ^ 63 ∧ ms.length < 16777216
  | _, _ => False
theorem map_erase {α β : Type} (f : α → β) : ∀ (xs : List α) (j : Nat), (xs.eraseIdx j).map f = (xs.map f).eraseIdx j
  | [], _ => rfl
  | _ :: _, 0 => rfl
  | a :: r, j + 1 => by
    show f a :: (r.eraseIdx j).map f = f a :: (r.map f).eraseIdx j
    rw [map_erase f r j]
theorem listW_is {m : M} {K : List D → Prop} (g : listW m K) : ∃ ds, (listW m fun d => d = ds) ∧ K ds := by
  cases m with
  | dat d => cases d <;> first | exact (show False from g).elim | exact ⟨_, rfl, g⟩
  | sl ds => exact ⟨_, rfl, g⟩
  | _ => exact (show False from g).elim
theorem mut_told {k : BM} {c : M} {as : List M} {K : M → M → Prop} (hs : supM k = true) (g : mutW k c as K) : ((∃ ds, c = .sl ds) ∨ ∃ ms, c = .lst ms) ∧ ∃ res m' ms', K res m' ∧ IsL m' ms' ∧ MutL k (lsM c) as res ms' := by
  match as, g with
  | [], g =>
    cases k with
    | pop =>
      have g : pop0P c K := g
      cases c with
      | sl ds =>
        obtain ⟨d, e, g⟩ := g
        exact ⟨.inl ⟨ds, rfl⟩, _, _, _, g, .inr ⟨_, rfl, rfl⟩, by simp [lsM, e], by simp [lsM, ← List.eraseIdx_length_sub_one, map_erase]⟩
      | lst ms =>
        obtain ⟨d, e, g⟩ := g
        exact ⟨.inr ⟨ms, rfl⟩, _, _, _, g, .inl rfl, e, List.eraseIdx_length_sub_one.symm⟩
      | _ => exact g.elim
    | clear =>
      have g : clrP c K := g
      cases c with
      | sl ds => exact ⟨.inl ⟨ds, rfl⟩, _, _, [], g, .inr ⟨[], rfl, rfl⟩, rfl, rfl⟩
      | lst ms => exact ⟨.inr ⟨ms, rfl⟩, _, _, [], g, .inr ⟨[], rfl, rfl⟩, rfl, rfl⟩
      | _ => exact g.elim
    | reverse =>
      have g : revP c K := g
      cases c with
      | sl ds => exact ⟨.inl ⟨ds, rfl⟩, _, _, _, g, .inr ⟨_, rfl, rfl⟩, rfl, by simp [lsM]⟩
      | lst ms => exact ⟨.inr ⟨ms, rfl⟩, _, _, _, g, .inl rfl, rfl, rfl⟩
      | _ => exact g.elim
    | _ => exact (show False from g).elim
  | [a], g =>
    cases k with
    | append =>
      have g : appP c a K := g
      cases c with
      | sl ds => exact ⟨.inl ⟨ds, rfl⟩, _, _, _, g.2, addL_is ds a, rfl, rfl, by simpa [lsM] using g.1⟩
      | lst ms => exact ⟨.inr ⟨ms, rfl⟩, _, _, _, g.2, .inl rfl, rfl, rfl, g.1⟩
      | _ => exact g.elim
    | extend =>
      have g : extP c a K := g
      cases c with
      | sl ds =>
        obtain ⟨es, e, ln, g⟩ := listW_is g
        exact ⟨.inl ⟨ds, rfl⟩, _, _, _, g, .inr ⟨_, rfl, rfl⟩, rfl, es, e, by simp [lsM], by simpa [lsM] using ln⟩
      | lst ms =>
        obtain ⟨es, e, ln, g⟩ := listW_is g
        exact ⟨.inr ⟨ms, rfl⟩, _, _, _, g, .inl rfl, rfl, es, e, rfl, ln⟩
      | _ => exact g.elim
    | pop =>
      have g : popIP c a K := g
      unfold popIP at g
      split at g
      · cases c with
        | sl ds =>
          obtain ⟨j, d, e1, e2, g⟩ := g
          exact ⟨.inl ⟨ds, rfl⟩, _, _, _, g, .inr ⟨_, rfl, rfl⟩, j, by simpa [lsM] using e1, by simp [lsM, e2], by simp [lsM, map_erase]⟩
        | lst ms =>
          obtain ⟨j, d, e1, e2, g⟩ := g
          exact ⟨.inr ⟨ms, rfl⟩, _, _, _, g, .inl rfl, j, e1, e2, rfl⟩
        | _ => exact g.elim
      · exact g.elim
    | add => cases hs
    | _ => exact (show False from g).elim
  | [i, a], g =>
    cases k with
    | insert =>
      have g : insIP c i a K := g
      unfold insIP at g
      split at g
      · cases c with
        | sl ds => exact ⟨.inl ⟨ds, rfl⟩, _, _, _, g.2, insL_is ds _ a, rfl, rfl, g.1.1, g.1.2.1, by simpa [lsM] using g.1.2.2⟩
        | lst ms => exact ⟨.inr ⟨ms, rfl⟩, _, _, _, g.2, .inl rfl, rfl, rfl, g.1.1, g.1.2.1, g.1.2.2⟩
        | _ => exact g.elim
      · exact g.elim
    | _ => exact (show False from g).elim
  | _ :: _ :: _ :: _, g => exact (show False from g).elim
end
end QL
end
section
set_option linter.all false
set_option maxRecDepth 100000
set_option maxHeartbeats 1000000
/-! SC5: a list's methods, whole. -/
namespace QL
open PySem PySem.Spec PyProof.Rows L2

section
variable {Γ : Ctx} {dp : Bool} {W : Wd} {E : List (Addr × Nat × Addr)} {Wx : WX} {r r1 r2 r4 r5 r6 : Wr} {σV : L2.St} {H : Hp} {Q : VK}
/-- the arguments of a change, kept -/
inductive AsR (W : Wd) (r : Wr) (fz : List Addr) : List M → List V → Prop
  | nil : AsR W r fz [] []
  | one {m : M} {v : V} (q : RM W r.F r.H m v fz) : AsR W r fz [m] [v]
  | see {m : M} {v : V} {fn : List Addr} (q : RM W r.F r.H m v fn) : AsR W r fz [m] [v]
  | two {i : Int} {m : M} {v : V} (q : RM W r.F r.H m v fz) : AsR W r fz [.dat (.int i), m] [.int i, v]
theorem RMs.rev {F : Addr → Prop} : ∀ {ms : List M} {vs : List V} {fp : List Addr}, RMs W F H ms vs fp → ∃ fp', RMs W F H ms.reverse vs.reverse fp' ∧ fp'.Perm fp
  | _, _, _, .nil => ⟨[], .nil, .refl _⟩
  | _, _, _, .cons (fp := fp) (fq := fq) r t => by
    obtain ⟨f', a, b⟩ := RMs.rev t
    rw [List.reverse_cons, List.reverse_cons]
    refine ⟨f' ++ (fp ++ []), a.append (.cons r .nil), ?_⟩
    rw [List.append_nil]
    exact (List.Perm.append_right fp b).trans List.perm_append_comm
theorem args_ex {k : BM} {svs : List SV} {vs : List V} {fy : List Addr} {K : FK} (er : ER W E r4) (qs : RSs W r4 svs vs fy) (s : Sep r4 fy) (g : argsW dp k svs r4.σ K) :
    ∃ r5 as fz, Nx W E r4 fy r5.σ r5 fz ∧ K as r5.σ ∧ r5.H = r4.H ∧ (∀ a ∈ fz, r5.H a ≠ none) ∧ AsR W r5 fz as vs ∧ (k ≠ .extend → ∀ m, as = [m] → ∃ v, vs = [v] ∧ RM W r5.F r5.H m v fz) := by
  match svs, qs, g with
  | [], .nil, g => exact ⟨r4, [], [], .here er s, g, rfl, by simp, .nil, fun _ m e => by cases e⟩
  | [x], .cons (fp := fp) q .nil, g =>
    have put : k ≠ .extend → putW dp x r4.σ (fun m σ1 => K [m] σ1) → ∃ r5 as fz, Nx W E r4 ([] ++ fp) r5.σ r5 fz ∧ K as r5.σ ∧ r5.H = r4.H ∧ (∀ a ∈ fz, r5.H a ≠ none) ∧ AsR W r5 fz as [_] ∧ (k ≠ .extend → ∀ m, as = [m] → ∃ v, [_] = [v] ∧ RM W r5.F r5.H m v fz) := fun hk g => by
      obtain ⟨r5, m, fz, n, g, rm, eH⟩ := putW_ex er q s g
      exact ⟨r5, [m], fz, n, g, eH, rm.there, .one rm, fun _ m' e => by cases e; exact ⟨_, rfl, rm⟩⟩
    cases k with
    | extend =>
      obtain ⟨r5, m, fq, fn, n, g, rm, _, s5, eH⟩ := settleSW_ex (K := fun m σ1 => K [m] σ1) er q s g
      exact ⟨r5, [m], fq, n, g, eH, fun a ha => rm.there a (s5 a ha), .see rm, fun z => absurd rfl z⟩
    | _ => exact put (by intro z; cases z) g
  | [i, x], .cons (fp := fi) qi (.cons (fp := fx) qx .nil), g =>
    have s' : Sep r4 (([] ++ fx) ++ fi) := s
    obtain ⟨n, fq, g, rn, _, _⟩ := getW_ex er qi s'.right g
    cases n with
    | dat d =>
      cases d with
      | int j =>
        obtain ⟨r5, m, fz, n5, g, rm, eH⟩ := putW_ex er qx s'.left g
        have e := rn.toInt
        subst e
        refine ⟨r5, _, fz, ?_, g, eH, rm.there, .two rm, fun _ m' e => by cases e⟩
        have sub : ∀ a ∈ r4.A ++ ([] ++ fx), a ∈ r4.A ++ (([] ++ fx) ++ fi) := fun a ha => by
          rcases List.mem_append.mp ha with z | z
          · exact List.mem_append_left _ z
          · exact List.mem_append_right _ (List.mem_append_left _ z)
        exact ⟨n5.σ, n5.er, n5.w, n5.st.more sub, n5.sep⟩
      | _ => exact (show False from g).elim
    | _ => exact (show False from g).elim
  | _ :: _ :: _ :: _, _, g => exact (show False from g).elim
/-- a list is changed -/
theorem mutL_ok {k : BM} {i : Nat} {p : List Nat} {v1 : V} {c : M} {as : List M} {vs : List V} {fz : List Addr} {K : KS} (hs : supM k = true) (n : Nx W E r [] r5.σ r5 fz) (q : RS W r5 v1 [] (.al i p)) (gm : getW r5.σ (.al i p) fun m => m = c)
    (ar : AsR W r5 fz as vs) (one : k ≠ .extend → ∀ m, as = [m] → ∃ v, vs = [v] ∧ RM W r5.F r5.H m v fz) (th : ∀ a ∈ fz, r5.H a ≠ none) (g : mutW k c as fun res m' => setMW r5.σ i p m' fun σ2 => mapW (clrB i p) σ2 fun σ3 => K (.v res) σ3) (hK : ∀ sv σ', K sv σ' → Fin W E r Q sv σ') : rMut k v1 vs r5.H Q := by
  obtain ⟨hc, res, m', ms', g, il, ml⟩ := mut_told hs g
  obtain ⟨fq, rc, ndq, fA, step⟩ := mut_ex (K := fun σ3 => K (.v res) σ3) n.er q gm g
  obtain ⟨l, vl, ms, fp, rfl, rfl, hl, rms, ln, ilc⟩ := listE rc hc
  rw [ilc.ls] at ml
  have lF : ¬ r5.F l := n.er.nf l (fA l List.mem_cons_self)
  have lfp : l ∉ fp := (List.nodup_cons.mp ndq).1
  have apz : ∀ a ∈ fz, a ∉ l :: fp := fun a ha z => n.sep.apart a ha (fA a z)
  have lz : l ∉ fz := fun z => apz l z List.mem_cons_self
  have lenV := rms.length
  -- one change: what is behind it
  have go : ∀ (vs' : List V) (ms2 : List M) (fp2 fr : List Addr) (u : V), ms2 = ms' → RMs W r5.F (upd r5.H l (.lst vs')) ms2 vs' fp2 → ms2.length ≤ sizeLine → ((l :: fp2) ++ fr).Nodup → (∀ a ∈ (l :: fp2) ++ fr, a ∈ l :: fp ∨ a ∈ fz) → RM W r5.F (upd r5.H l (.lst vs')) res u fr → Q u (upd r5.H l (.lst vs')) := fun vs' ms2 fp2 fr u e rm2 ln2 nd2 mem2 ru => by
    subst e
    obtain ⟨r6, n6, k6, eH, eF⟩ := step (upd r5.H l (.lst vs')) (l :: fp2) fr fz (fun a o e na => upd_keep (fun z => na (by rw [z]; exact List.mem_cons_self)) e) (fun a ha => by
      by_cases z : a = l
      · subst z; rw [upd_same]; simp
      · rw [upd_ne z]
        rcases List.mem_cons.mp ha with y | y
        · exact absurd y z
        · exact rms.there a y) (il.rm upd_same ln2 rm2) n.sep th nd2 mem2
    rw [← eH]
    refine Fin.own (hK _ _ k6) (n.trans n6) ?_
    rw [eF, eH]; exact ru
  have ndz : (fp ++ fz).Nodup := List.nodup_append.mpr ⟨(List.nodup_cons.mp ndq).2, n.sep.ndF, fun a ha b hb z => by subst z; exact apz a hb (List.mem_cons_of_mem _ ha)⟩
  have ndAll : ((l :: (fp ++ fz)) ++ []).Nodup := by
    rw [List.append_nil]
    exact List.nodup_cons.mpr ⟨fun z => (List.mem_append.mp z).elim lfp lz, ndz⟩
  have memAll : ∀ a ∈ (l :: (fp ++ fz)) ++ [], a ∈ l :: fp ∨ a ∈ fz := fun a ha => by
    rw [List.append_nil] at ha
    rcases List.mem_cons.mp ha with z | z
    · exact .inl (by rw [z]; exact List.mem_cons_self)
    · exact (List.mem_append.mp z).imp (List.mem_cons_of_mem _) id
  have non : ∀ vs', RM W r5.F (upd r5.H l (.lst vs')) (.dat .none) .non [] := fun vs' => .dat .none
  match as, ar, ml with
  | [], .nil, ml =>
    cases k with
    | pop =>
      obtain ⟨e, rfl⟩ := (show ms[ms.length - 1]? = some res ∧ ms' = ms.eraseIdx (ms.length - 1) from ml)
      obtain ⟨u, fe, rest, hu, ru, pm, rr⟩ := rms.split e
      have inn : ∀ a ∈ rest ++ fe, a ∈ fp := fun a ha => pm.mem_iff.mpr ha
      rw [lenV] at hu
      refine .inl ⟨l, vl, u, rfl, rfl, hl, hu, ?_⟩
      rw [← List.eraseIdx_length_sub_one, ← lenV]
      refine go _ _ rest fe u rfl (rr.updAt lF fun z => lfp (inn _ (List.mem_append_left _ z))) (by rw [List.length_eraseIdx]; split <;> omega) ?_ (fun a ha => .inl ?_) (ru.updAt lF fun z => lfp (inn _ (List.mem_append_right _ z)))
      · exact List.nodup_cons.mpr ⟨fun z => lfp (inn _ z), perm_nodup pm.symm (List.nodup_cons.mp ndq).2⟩
      · rcases List.mem_cons.mp ha with z | z
        · rw [z]; exact List.mem_cons_self
        · exact List.mem_cons_of_mem _ (inn _ z)
    | clear =>
      obtain ⟨rfl, rfl⟩ := (show res = .dat .none ∧ ms' = [] from ml)
      exact ⟨l, vl, rfl, rfl, hl, go [] [] [] [] .non rfl .nil (Nat.zero_le _) (by simp) (fun a ha => .inl (by
        have : a = l := by simpa using ha
        rw [this]; exact List.mem_cons_self)) (non _)⟩
    | reverse =>
      obtain ⟨rfl, rfl⟩ := (show res = .dat .none ∧ ms' = ms.reverse from ml)
      obtain ⟨f', rr, pm⟩ := rms.rev
      refine ⟨l, vl, rfl, rfl, hl, go _ _ f' [] .non rfl (rr.updAt lF fun z => lfp (pm.mem_iff.mp z)) (by simpa using ln) ?_ (fun a ha => .inl ?_) (non _)⟩
      · rw [List.append_nil]
        exact List.nodup_cons.mpr ⟨fun z => lfp (pm.mem_iff.mp z), perm_nodup pm (List.nodup_cons.mp ndq).2⟩
      · rw [List.append_nil] at ha
        rcases List.mem_cons.mp ha with z | z
        · rw [z]; exact List.mem_cons_self
        · exact List.mem_cons_of_mem _ (pm.mem_iff.mp z)
    | _ => exact (show False from ml).elim
  | [a], ar, ml =>
    cases k with
    | append =>
      obtain ⟨rfl, rfl, lt⟩ := (show res = .dat .none ∧ ms' = ms ++ [a] ∧ ms.length < 16777216 from ml)
      obtain ⟨va, rfl, ra⟩ := one (by intro z; cases z) a rfl
      refine ⟨l, vl, va, rfl, rfl, hl, by rw [← lenV, ← sizeL]; exact lt, go _ _ (fp ++ fz) [] .non rfl ?_ (by rw [List.length_append, ← sizeL]; exact lt) ndAll memAll (non _)⟩
      have one' : RMs W r5.F (upd r5.H l (.lst (vl ++ [va]))) [a] [va] (fz ++ []) := .cons (ra.updAt lF lz) .nil
      rw [List.append_nil] at one'
      exact (rms.updAt lF lfp).append one'
    | extend =>
      obtain ⟨rfl, es, e, rfl, lt⟩ := (show res = .dat .none ∧ ∃ es : List D, (listW a fun es' => es' = es) ∧ ms' = ms ++ es.map .dat ∧ ms.length + es.length ≤ 16777216 from ml)
      obtain ⟨va, fn, rfl, ra⟩ : ∃ va fn, vs = [va] ∧ RM W r5.F r5.H a va fn := by
        cases ar with
        | one q => exact ⟨_, _, rfl, q⟩
        | see q => exact ⟨_, _, rfl, q⟩
      simp only [listW] at e
      split at e
      · rename_i z
        obtain ⟨ds, b, us, rfl, rfl, hb, rd, _⟩ := isList_ex ra z e
        refine ⟨l, b, vl, us, rfl, rfl, hl, hb, by rw [← lenV, ← rd.length, ← sizeL]; exact lt, go _ _ fp [] .non rfl ?_ (by rw [List.length_append, List.length_map, ← sizeL]; exact lt) ?_ (fun a ha => .inl ?_) (non _)⟩
        · have z := (rms.updAt (o := .lst (vl ++ us)) lF lfp).append (RMs.ofDs (W := W) (rd.updAt (o := .lst (vl ++ us)) lF))
          rw [List.append_nil] at z
          exact z
        · rw [List.append_nil]; exact ndq
        · rw [List.append_nil] at ha; exact ha
      · exact e.elim
    | pop =>
      cases a with
      | dat d =>
        cases d with
        | int i =>
          obtain ⟨j, e1, e2, rfl⟩ := (show ∃ j, L2.ixN ms.length i = some j ∧ ms[j]? = some res ∧ ms' = ms.eraseIdx j from ml)
          have ev : vs = [.int i] := by
            cases ar with
            | one q => rw [q.toInt]
            | see q => rw [q.toInt]
          subst ev
          obtain ⟨u, fe, rest, hu, ru, pm, rr⟩ := rms.split e2
          have inn : ∀ a ∈ rest ++ fe, a ∈ fp := fun a ha => pm.mem_iff.mpr ha
          rw [lenV] at e1
          obtain ⟨sq, hj, lo, hi⟩ := ixN_seq e1
          have hn : vl.length ≤ 16777216 := by rw [← lenV, sizeL]; exact ln
          refine .inr ⟨l, vl, i, j, u, rfl, rfl, hl, by omega, by omega, sq, hu, ?_⟩
          refine go _ _ rest fe u rfl (rr.updAt lF fun z => lfp (inn _ (List.mem_append_left _ z))) (by rw [List.length_eraseIdx]; split <;> omega) ?_ (fun a ha => .inl ?_) (ru.updAt lF fun z => lfp (inn _ (List.mem_append_right _ z)))
          · exact List.nodup_cons.mpr ⟨fun z => lfp (inn _ z), perm_nodup pm.symm (List.nodup_cons.mp ndq).2⟩
          · rcases List.mem_cons.mp ha with z | z
            · rw [z]; exact List.mem_cons_self
            · exact List.mem_cons_of_mem _ (inn _ z)
        | _ => exact (show False from ml).elim
      | _ => exact (show False from ml).elim
    | insert => simp [MutL] at ml
    | _ => exact (show False from ml).elim
  | [_, a], .two (i := i) (v := va) ra, ml =>
    cases k with
    | insert =>
      obtain ⟨rfl, rfl, h0, h1, lt⟩ := (show res = .dat .none ∧ ms' = insAt ms i a ∧ 0 ≤ i ∧ i < 2 ^ 63 ∧ ms.length < 16777216 from ml)
      obtain ⟨f1, f2, rfl, t1, t2⟩ := RMs.take i.toNat rms
      refine ⟨l, vl, i, va, rfl, rfl, hl, by rw [← lenV, ← sizeL]; exact lt, h0, h1, go _ _ ((f1 ++ fz) ++ f2) [] .non rfl ?_ ?_ ?_ (fun b hb => ?_) (non _)⟩
      · have l1 : l ∉ f1 := fun z => lfp (List.mem_append_left _ z)
        have l2 : l ∉ f2 := fun z => lfp (List.mem_append_right _ z)
        have one' : RMs W r5.F (upd r5.H l (.lst (vl.take i.toNat ++ [va] ++ vl.drop i.toNat))) [a] [va] (fz ++ []) := .cons (ra.updAt lF lz) .nil
        rw [List.append_nil] at one'
        exact ((t1.updAt lF l1).append one').append (t2.updAt lF l2)
      · unfold insAt
        simp only [List.length_append, List.length_take, List.length_drop, List.length_singleton]
        rw [← sizeL]; omega
      · rw [List.append_nil]
        have pp : ((f1 ++ fz) ++ f2).Perm ((f1 ++ f2) ++ fz) := by
          rw [List.append_assoc, List.append_assoc]
          exact List.Perm.append_left _ List.perm_append_comm
        exact List.nodup_cons.mpr ⟨fun z => (List.mem_append.mp (pp.mem_iff.mp z)).elim lfp lz, perm_nodup pp ndz⟩
      · rw [List.append_nil] at hb
        rcases List.mem_cons.mp hb with z | z
        · exact .inl (by rw [z]; exact List.mem_cons_self)
        · rcases List.mem_append.mp z with z | z
          · rcases List.mem_append.mp z with z | z
            · exact .inl (List.mem_cons_of_mem _ (List.mem_append_left _ z))
            · exact .inr z
          · exact .inl (List.mem_cons_of_mem _ (List.mem_append_right _ z))
    | _ => exact (show False from ml).elim
end
end QL
end
section
set_option linter.all false
set_option maxRecDepth 100000
set_option maxHeartbeats 1000000
/-! SC6: methods as readings. -/
namespace QL
open PySem PySem.Spec PyProof.Rows L2

section
variable {Γ : Ctx} {dp : Bool} {W : Wd} {E : List (Addr × Nat × Addr)} {Wx : WX} {r r1 r2 r4 r5 r6 : Wr} {σV : L2.St} {H : Hp} {Q : VK}
theorem tyL {F : Addr → Prop} {m : M} {v : V} {fp : List Addr} (q : RM W F H m v fp) (z : Nat.beq (tyM m) 0 = true) : tyV W.K "list" v H := by
  cases q with
  | dat q => cases q with
    | list f h ln r => exact .inl ⟨rfl, _, .inl (.inl h)⟩
    | _ => cases z
  | sl h ln r => exact .inl ⟨rfl, _, .inl (.inl h)⟩
  | lst h ln r => exact .inl ⟨rfl, _, .inl (.inl h)⟩
  | _ => cases z
theorem tyS {F : Addr → Prop} {m : M} {v : V} {fp : List Addr} (q : RM W F H m v fp) (z : Nat.beq (tyM m) 3 = true) : tyV W.K "str" v H := by
  cases q with
  | dat q => cases q with
    | str ok ln => rfl
    | _ => cases z
  | _ => cases z
theorem bm_val {k : BM} {x : SV} {v1 : V} {svs : List SV} {vs : List V} {fx fy : List Addr} {K : KS} (hs : supM k = true) (n4 : Nx W E r [] r4.σ r4 (fy ++ fx)) (qx : RS W r4 v1 fx x) (qs : RSs W r4 svs vs fy) (g : bmSW dp x k svs r4.σ K) (hK : ∀ sv σ', K sv σ' → Fin W E r Q sv σ') : rMut k v1 vs r4.H Q := by
  have g : mutSW dp x k svs r4.σ K := by cases k <;> first | exact g | cases hs
  obtain ⟨r5, as, fz, n5, g, eH, th, ar, one⟩ := args_ex n4.er qs n4.sep.left g
  have w5 := Nx.wideG n4.sep qx.there n5
  have t5 := n4.trans w5
  have q5 := qx.same n5 eH g
  obtain ⟨c, gm, g⟩ := getW_is g
  cases x with
  | al i p =>
    obtain ⟨rfl, _⟩ := qx
    rw [List.append_nil] at t5
    rw [← eH]
    exact mutL_ok hs t5 q5 gm ar one th g hK
  | _ =>
    obtain ⟨_, _, _, _, z, _⟩ := mut_told hs g
    exact (show False from z).elim
theorem i_bmA {a : QL.E} {k : BM} {es : Es} (hs : supM k = true) (h : tE Γ dp W E Wx (.bm a k es) σV H Q) : tBM W.K "list" (rMut k) (tE Γ dp W E Wx a) (tA Γ dp W E Wx es) σV H Q := by
  obtain ⟨r, rfl, er, pre, X, K, ev, hX, hK⟩ := h
  refine ⟨r, rfl, er, pre, X, _, ev, hX, fun x σ1 g r1 e v1 fp1 n1 q1 => ?_⟩
  subst e
  obtain ⟨m, gm, g⟩ := getW_is g
  obtain ⟨m', fm, e, rm, _, _⟩ := getW_ex n1.er q1 n1.sep gm
  subst e
  have bt : bmTy k = 0 := by cases k <;> first | rfl | cases hs
  rw [bt] at g
  cases z : Nat.beq (tyM m') 0 with
  | false => rw [z] at g; exact g.elim
  | true =>
    rw [z] at g
    refine ⟨tyL rm z, holdG Jt_A n1 q1 hX pre g fun x' svs vs r4 fx fy n4 qx qs g => ?_⟩
    exact bm_val hs n4 qx qs g fun sv σ' k => hK sv σ' k
theorem i_bm0 {a : QL.E} {k : BM} (hs : supM k = true) (h : tE Γ dp W E Wx (.bm a k .nil) σV H Q) : tBM0 W.K "list" (rMut k) (tE Γ dp W E Wx a) σV H Q := by
  have h := i_bmA hs h
  obtain ⟨r, e, er, pre, X, K, ev, hX, hK⟩ := h
  exact ⟨r, e, er, pre, X, K, ev, hX, fun x σ1 g r1 e v1 fp1 n1 q1 => ⟨(hK x σ1 g r1 e v1 fp1 n1 q1).1, i_anil (hK x σ1 g r1 e v1 fp1 n1 q1).2⟩⟩

/-! ### reading methods -/
def rRead (K : PySem.W.Frag) : BM → V → List V → Hp → VK → Prop
  | .index => rIndexD K
  | .join => fun x xs H Q => ∃ a p, ∃ ys : List Str, x = .str a ∧ xs = [.ref p] ∧ (SqL K H p (ys.map V.str) ∨ SqT K H p (ys.map V.str)) ∧ (ys.map (·.length)).sum + ys.length * a.length ≤ 16777216 ∧ Q (.str (Txt.join a ys)) H
  | .split => fun x xs H Q => ∃ a b, x = .str a ∧ xs = [.str b] ∧ (b.length == 0) = false ∧ a.length + 2 ≤ sizeLine ∧ rNewStrs (Txt.split a b) H Q
  | .partition => fun x xs H Q => ∃ a b, x = .str a ∧ xs = [.str b] ∧ (b.length == 0) = false ∧ a.length ≤ sizeLine ∧ ∀ p, H p = none → Q (.ref p) (upd H p (.tup [.str (Txt.partition a b).1, .str (Txt.partition a b).2.1, .str (Txt.partition a b).2.2]))
  | .endswith => fun x xs H Q => ∃ a b, x = .str a ∧ xs = [.str b] ∧ Q (.bl (Txt.endswith a b)) H
  | .upper => fun x xs H Q => ∃ a, x = .str a ∧ xs = [] ∧ a.length ≤ 5592405 ∧ Q (.str (Txt.upper a)) H
  | _ => fun _ _ _ _ => False
def rdId : BM → String
  | .index => "list.index"
  | .join => "str.join"
  | .split => "str.split"
  | .partition => "str.partition"
  | .endswith => "str.endswith"
  | .upper => "str.upper"
  | _ => ""
def supR : BM → Bool
  | .index | .join | .split | .partition | .endswith | .upper => true
  | _ => false
theorem mt_read {X : Cx} (hu : X.A.units + 65 < cLine) {k : BM} (h : supR k = true) : MtR X (rdId k) (rRead X.K k) := by
  cases k <;> first
    | exact mt_indexD hu
    | exact mt_join
    | exact mt_split
    | exact mt_partition
    | exact mt_endswith
    | exact mt_upper
    | cases h
theorem strs_vs {K : PySem.W.Frag} {F : Addr → Prop} : ∀ {ds : List D} {vs : List V} {ys : List Str}, RDs K F H ds vs → strsOf ds = some ys → vs = ys.map V.str ∧ ∀ y ∈ ys, PyData.strOk y = true
  | [], _, ys, .nil, e => by cases e; exact ⟨rfl, by simp⟩
  | d :: ds, _, ys, .cons r t, e => by
    cases r with
    | str ok ln =>
      simp only [strsOf, Option.map_eq_some_iff] at e
      obtain ⟨ys', e, rfl⟩ := e
      obtain ⟨a, b⟩ := strs_vs t e
      refine ⟨by rw [a]; rfl, fun y hy => ?_⟩
      rcases List.mem_cons.mp hy with rfl | hy
      · exact ok
      · exact b y hy
    | _ => simp [strsOf] at e
theorem strP2_ex {m a : M} {K : Str → Str → Prop} (g : strP2 m a K) : ∃ x y, m = .dat (.str x) ∧ a = .dat (.str y) ∧ K x y := by
  unfold strP2 at g
  split at g
  · exact ⟨_, _, rfl, rfl, g⟩
  · exact g.elim
theorem findD_ok {x : D} : ∀ {ds : List D} {j : Nat}, findD x ds = some j → (∃ z, ds[j]? = some z ∧ PyData.eqv z x = true) ∧ ∀ (m : Nat) (z' : D), m < j → ds[m]? = some z' → PyData.eqv z' x = false
  | [], _, h => by simp [findD] at h
  | d :: r, j, h => by
    unfold findD at h
    split at h
    · rename_i e
      cases h
      exact ⟨⟨d, rfl, e⟩, fun m z' hm => absurd hm (Nat.not_lt_zero _)⟩
    · rename_i e
      rw [Option.map_eq_some_iff] at h
      obtain ⟨i, h, rfl⟩ := h
      obtain ⟨⟨z, a, b⟩, c⟩ := findD_ok h
      refine ⟨⟨z, by simpa using a, b⟩, fun m z' hm hz => ?_⟩
      cases m with
      | zero => simp at hz; subst hz; simpa using e
      | succ m => exact c m z' (by omega) (by simpa using hz)
end
end QL
end
section
set_option linter.all false
set_option maxRecDepth 100000
set_option maxHeartbeats 1000000
/-! SC7: methods that read. -/
namespace QL
open PySem PySem.Spec PyProof.Rows L2

theorem okS_sub {x : Str} {i j : Nat} (h : PyData.strOk x = true) : PyData.strOk (Builtin.Str.strSub x i j) = true := by
  unfold Builtin.Str.strSub PyData.strOk at *
  rw [Array.all_eq_true_iff_forall_mem] at *
  intro c hc
  refine h c ?_
  rw [Array.mem_extract_iff_getElem] at hc
  obtain ⟨k, hk, e⟩ := hc
  rw [← e]
  exact Array.getElem_mem _
theorem lenS_sub {x : Str} {i j : Nat} (h : x.length ≤ sizeLine) : (Builtin.Str.strSub x i j).length ≤ sizeLine := by
  have : (Builtin.Str.strSub x i j).length = (x.cps.extract i j).size := rfl
  rw [this, Array.size_extract]
  have : x.length = x.cps.size := rfl
  omega
theorem okS_split {x y : Str} (h : PyData.strOk x = true) (ln : x.length ≤ sizeLine) : ∀ z ∈ Txt.split x y, PyData.strOk z = true ∧ z.length ≤ sizeLine := by
  intro z hz
  unfold Txt.split at hz
  split at hz
  · rw [List.mem_singleton.mp hz]; exact ⟨h, ln⟩
  · split at hz
    · rw [List.mem_singleton.mp hz]; exact ⟨h, ln⟩
    · unfold Builtin.Str.partsBetween at hz
      obtain ⟨p, _, rfl⟩ := List.mem_map.mp hz
      exact ⟨okS_sub h, lenS_sub ln⟩
theorem okS_part {x y : Str} (h : PyData.strOk x = true) (ln : x.length ≤ sizeLine) (h2 : PyData.strOk y = true) (ln2 : y.length ≤ sizeLine) :
    (PyData.strOk (Txt.partition x y).1 = true ∧ (Txt.partition x y).1.length ≤ sizeLine) ∧ (PyData.strOk (Txt.partition x y).2.1 = true ∧ (Txt.partition x y).2.1.length ≤ sizeLine) ∧ (PyData.strOk (Txt.partition x y).2.2 = true ∧ (Txt.partition x y).2.2.length ≤ sizeLine) := by
  unfold Txt.partition
  split
  · exact ⟨⟨okS_sub h, lenS_sub ln⟩, ⟨h2, ln2⟩, ⟨okS_sub h, lenS_sub ln⟩⟩
  · have e1 : PyData.strOk Str.empty = true := sOk_of (l := []) (by simp)
    have e2 : Str.empty.length ≤ sizeLine := by decide
    exact ⟨⟨h, ln⟩, ⟨e1, e2⟩, ⟨e1, e2⟩⟩
theorem okS_join {x : Str} {ys : List Str} (h : PyData.strOk x = true) (h2 : ∀ y ∈ ys, PyData.strOk y = true) (ln : (ys.map (·.length)).sum + ys.length * x.length ≤ 16777216) : PyData.strOk (Txt.join x ys) = true ∧ (Txt.join x ys).length ≤ sizeLine := by
  have e : Txt.join x ys = Str.join x ys := StrLaws.glued_eq_join x ys
  rw [e]
  exact ⟨sOk_join h h2, by rw [← sizeL]; exact Nat.le_trans (StrLaws.join_length_le x ys) ln⟩
section
variable {Γ : Ctx} {dp : Bool} {W : Wd} {E : List (Addr × Nat × Addr)} {Wx : WX} {r r1 r2 r4 r5 r6 : Wr} {σV : L2.St} {H : Hp} {Q : VK}
theorem RDs.strs {K : PySem.W.Frag} {F : Addr → Prop} : ∀ {ys : List Str}, (∀ y ∈ ys, PyData.strOk y = true ∧ y.length ≤ sizeLine) → RDs K F H (ys.map .str) (ys.map V.str)
  | [], _ => .nil
  | y :: ys, h => .cons (.str (h y (by simp)).1 (h y (by simp)).2) (RDs.strs fun z hz => h z (List.mem_cons_of_mem _ hz))
theorem read_ok {k : BM} {m : M} {as : List M} {v : V} {vs : List V} {fm fq : List Addr} {K : M → Prop} (hs : supR k = true) (n : Nx W E r [] r4.σ r4 fq) (q : RM W (fun _ => True) r4.H m v fm) (vl : VL W r4.H as vs) (g : readMW k m as K) (hK : ∀ m, K m → Fin W E r Q (.v m) r4.σ) : rRead W.K k v vs r4.H Q := by
  match as, vl, g with
  | [], .nil, g =>
    cases k with
    | upper =>
      have g : upP m K := g
      unfold upP at g
      split at g
      · obtain ⟨⟨h1, h2, h3⟩, g⟩ := g
        obtain ⟨rfl, ok, ln⟩ := q.toStr
        exact ⟨_, rfl, rfl, h1, (hK _ g).dat n (.str h2 (by rw [← sizeL]; exact h3))⟩
      · exact g.elim
    | _ => exact (show False from g).elim
  | [a], vl, g =>
    obtain ⟨va, fa, rfl, qa⟩ := vl.one
    cases k with
    | index =>
      obtain ⟨d, e, g⟩ := pyW_ex (show pyW a _ from g)
      obtain ⟨ds, p, us, ⟨h1, h2, j, hj, g⟩, rfl, hl, rd, ln⟩ := listW_ex q g
      have ra := qa.pyT e
      obtain ⟨d1, s1⟩ := ra.shaped h1
      have hd2 := okD_le h2
      have rdl : DpAll W.K r4.H us ds := rd.dp (by simp only [dep] at hd2; omega)
      have sl : SeqAt.shaped (.list ds) = true := by
        obtain ⟨a1, a2⟩ := rd.lay (by simp only [dep] at hd2; omega)
        unfold SeqAt.shaped
        have : (PyData.list ds).canLay0 = true := by simpa [PyData.canLay0] using a1
        rw [this]
        simp only [PyData.depth, a2, dep] at *
        simpa using hd2
      obtain ⟨⟨z, z1, z2⟩, z3⟩ := findD_ok hj
      exact ⟨p, va, d, ds, j, z, rfl, rfl, .lst hl rdl, d1, sl, s1, z1, z2, z3, (hK _ g).dat n .int⟩
    | join =>
      have g : joinP m a K := g
      unfold joinP at g
      split at g
      · obtain ⟨rfl, ok, ln⟩ := q.toStr
        obtain ⟨ds, p, us, ⟨ys, e, lt, g⟩, rfl, hl, rd, _⟩ := seqW_ex qa g
        obtain ⟨rfl, oks⟩ := strs_vs rd e
        obtain ⟨a1, a2⟩ := okS_join ok oks lt
        exact ⟨_, p, ys, rfl, rfl, hl.symm, lt, (hK _ g).dat n (.str a1 a2)⟩
      · exact g.elim
    | split =>
      obtain ⟨x, y, rfl, rfl, ⟨h1, h2, h3⟩, g⟩ := strP2_ex (show strP2 m a _ from g)
      obtain ⟨rfl, ok, ln⟩ := q.toStr
      obtain ⟨rfl, _, _⟩ := qa.toStr
      refine ⟨x, y, rfl, rfl, by simpa using h1, by rw [← sizeL]; exact h2, fun p hp => (hK _ g).newSl n (RDs.strs (okS_split ok ln)) (by rw [List.length_map, ← sizeL]; exact h3) hp⟩
    | partition =>
      obtain ⟨x, y, rfl, rfl, h1, g⟩ := strP2_ex (show strP2 m a _ from g)
      obtain ⟨rfl, ok, ln⟩ := q.toStr
      obtain ⟨rfl, ok2, ln2⟩ := qa.toStr
      obtain ⟨⟨a1, a2⟩, ⟨b1, b2⟩, c1, c2⟩ := okS_part ok ln ok2 ln2
      exact ⟨x, y, rfl, rfl, by simpa using h1, ln, fun p hp => (hK _ g).newTd n (.cons (.str a1 a2) (.cons (.str b1 b2) (.cons (.str c1 c2) .nil))) (by show 3 ≤ sizeLine; decide) hp⟩
    | endswith =>
      obtain ⟨x, y, rfl, rfl, g⟩ := strP2_ex (show strP2 m a _ from g)
      obtain ⟨rfl, _, _⟩ := q.toStr
      obtain ⟨rfl, _, _⟩ := qa.toStr
      exact ⟨x, y, rfl, rfl, (hK _ g).dat n .bool⟩
    | get => cases hs
    | _ => exact (show False from g).elim
  | _ :: _ :: _, _, g => exact (show False from g).elim
def rdTy : BM → String
  | .index => "list"
  | _ => "str"
theorem i_rdA {a : QL.E} {k : BM} {es : Es} (hs : supR k = true) (h : tE Γ dp W E Wx (.bm a k es) σV H Q) : tBM W.K (rdTy k) (rRead W.K k) (tE Γ dp W E Wx a) (tA Γ dp W E Wx es) σV H Q := by
  obtain ⟨r, rfl, er, pre, X, K, ev, hX, hK⟩ := h
  refine ⟨r, rfl, er, pre, X, _, ev, hX, fun x σ1 g r1 e v1 fp1 n1 q1 => ?_⟩
  subst e
  obtain ⟨m, gm, g⟩ := getW_is g
  obtain ⟨m', fm, e, rm, _, _⟩ := getW_ex n1.er q1 n1.sep gm
  subst e
  cases z : Nat.beq (tyM m') (bmTy k) with
  | false => rw [z] at g; exact g.elim
  | true =>
    rw [z] at g
    refine ⟨?_, holdG Jt_A n1 q1 hX pre g fun x' svs vs r4 fx fy n4 qx qs g => ?_⟩
    · cases k <;> first | exact tyL rm z | exact tyS rm z | cases hs
    · have g : seeSW x' k svs r4.σ K := by cases k <;> first | exact g | cases hs
      obtain ⟨c, fc, g, rc, _, nd⟩ := getW_ex n4.er qx n4.sep.right g
      obtain ⟨c', fc', g, rc'⟩ := rc.seeT nd g
      obtain ⟨ms, g, vl⟩ := views_ex n4.er qs n4.sep.left g
      exact read_ok hs n4 rc' vl g fun m k => hK _ _ k
theorem i_rd0 {a : QL.E} {k : BM} (hs : supR k = true) (h : tE Γ dp W E Wx (.bm a k .nil) σV H Q) : tBM0 W.K (rdTy k) (rRead W.K k) (tE Γ dp W E Wx a) σV H Q := by
  have h := i_rdA hs h
  obtain ⟨r, e, er, pre, X, K, ev, hX, hK⟩ := h
  exact ⟨r, e, er, pre, X, K, ev, hX, fun x σ1 g r1 e v1 fp1 n1 q1 => ⟨(hK x σ1 g r1 e v1 fp1 n1 q1).1, i_anil (hK x σ1 g r1 e v1 fp1 n1 q1).2⟩⟩
end
end QL
end
section
set_option linter.all false
set_option maxRecDepth 100000
set_option maxHeartbeats 1000000
/-! SD1: statements as readings. -/
namespace QL
open PySem PySem.Spec PyProof.Rows L2

/-- a later moment -/
structure Lat (W : Wd) (E : List (Addr × Nat × Addr)) (fx : Nat → Bool) (r r' : Wr) : Prop where
  er : ER W E r'
  lw : r'.w.length = r.w.length
  ws : ∀ j, fx j = true → r'.w[j]? = r.w[j]?
  st : Stp r.F r.H r.A r'.F r'.H r'.A
/-- .. with something that has come -/
structure LatF (W : Wd) (E : List (Addr × Nat × Addr)) (fx : Nat → Bool) (r r' : Wr) (fp : List Addr) : Prop where
  er : ER W E r'
  lw : r'.w.length = r.w.length
  ws : ∀ j, fx j = true → r'.w[j]? = r.w[j]?
  st : Stp r.F r.H r.A r'.F r'.H (r'.A ++ fp)
  sep : Sep r' fp
section
variable {W : Wd} {E : List (Addr × Nat × Addr)} {r r1 r2 r4 r5 r6 : Wr}
theorem Lat.refl {fx : Nat → Bool} (h : ER W E r) : Lat W E fx r r := ⟨h, rfl, fun _ _ => rfl, Stp.refl⟩
theorem Lat.trans {fx : Nat → Bool} (a : Lat W E fx r r1) (b : Lat W E fx r1 r2) : Lat W E fx r r2 := ⟨b.er, b.lw.trans a.lw, fun j h => (b.ws j h).trans (a.ws j h), a.st.trans b.st⟩
theorem Lat.transF {fx : Nat → Bool} {fp : List Addr} (a : Lat W E fx r r1) (b : LatF W E fx r1 r2 fp) : LatF W E fx r r2 fp := ⟨b.er, b.lw.trans a.lw, fun j h => (b.ws j h).trans (a.ws j h), a.st.trans b.st, b.sep⟩
theorem LatF.lat {fx : Nat → Bool} {fp : List Addr} (a : LatF W E fx r r1 fp) : Lat W E fx r r1 := ⟨a.er, a.lw, a.ws, a.st.sub fun _ z => List.mem_append_left _ z⟩
theorem Nx.latF {fx : Nat → Bool} {σ1 : Env} {fp : List Addr} (x : Nx W E r [] σ1 r1 fp) : LatF W E fx r r1 fp := ⟨x.er, by rw [x.w], fun _ _ => by rw [x.w], by have := x.st; rw [List.append_nil] at this; exact this, x.sep⟩
theorem Nx.lat {fx : Nat → Bool} {σ1 : Env} (x : Nx W E r [] σ1 r1 []) : Lat W E fx r r1 := ⟨x.er, by rw [x.w], fun _ _ => by rw [x.w], by have := x.st; rw [List.append_nil, List.append_nil] at this; exact this⟩
theorem Nw.lat {fx : Nat → Bool} {w' : List (Option V)} {fp : List Addr} {σ1 : Env} (n : Nx W E r [] σ1 r1 fp) (b : Nw W E r1 fp w' r2) (hl : w'.length = r1.w.length) (hw : ∀ j, fx j = true → w'[j]? = r1.w[j]?) : Lat W E fx r r2 := ⟨b.er, by rw [b.w, hl, n.w], fun j h => by rw [b.w, hw j h, n.w], by have := n.st.trans b.st; rw [List.append_nil] at this; exact this⟩
theorem set_ws {fx : Nat → Bool} {w : List (Option V)} {i : Nat} {y : Option V} (h : fx i = false) : ∀ j, fx j = true → (w.set i y)[j]? = w[j]? := fun j hj => by
  rw [List.getElem?_set_ne (fun z => by subst z; rw [h] at hj; cases hj)]
end
section
variable (Γ : Ctx) (dp : Bool) (W : Wd) (E : List (Addr × Nat × Addr)) (Wx : WX) (fx : Nat → Bool)
/-- what the ends of a statement give -/
structure EndsR (r : Wr) (n : Nat) (Dp : Post) (D : Ends) : Prop where
  nx : ∀ σ', Dp.nx σ' → ∀ r' : Wr, r'.σ = σ' → Lat W E fx r r' → ∀ σV : L2.St, Pre σV r'.w → σV.length = n → D.nx σV r'.H
  rt : ∀ sv σ', Dp.rt sv σ' → ∀ (r' : Wr) (v : V) (fp : List Addr), r'.σ = σ' → LatF W E fx r r' fp → RS W r' v fp sv → D.rt v r'.H
  bk : ∀ σ', Dp.bk σ' → ∀ r' : Wr, r'.σ = σ' → Lat W E fx r r' → ∀ σV : L2.St, Pre σV r'.w → σV.length = n → D.bk σV r'.H
  ct : ∀ σ', Dp.ct σ' → ∀ r' : Wr, r'.σ = σ' → Lat W E fx r r' → ∀ σV : L2.St, Pre σV r'.w → σV.length = n → D.ct σV r'.H
  ex : ∀ c m σ', Dp.ex c m σ' → ∀ (r' : Wr) (fp : List Addr) (d : Addr) (pv : V), r'.σ = σ' → LatF W E fx r r' fp → r'.F d → r'.H d = some (.xd [(W.fld f_value, pv)]) → RM W r'.F r'.H m pv fp → ∀ C, W.cls c = some C → ∀ σV : L2.St, Pre σV r'.w → σV.length = n → Wx (.ref C) (some d) σV r'.H
def tS (s : QL.S) : TS := fun D σV H => ∃ r : Wr, r.H = H ∧ ER W E r ∧ Pre σV r.w ∧ ∃ Dp : Post, exS Γ dp s r.σ Dp ∧ EndsR W E Wx fx r σV.length Dp D
def tSs (s : Ss) : TS := fun D σV H => ∃ r : Wr, r.H = H ∧ ER W E r ∧ Pre σV r.w ∧ ∃ Dp : Post, exSs Γ dp s r.σ Dp ∧ EndsR W E Wx fx r σV.length Dp D
end
section
variable {Γ : Ctx} {dp : Bool} {W : Wd} {E : List (Addr × Nat × Addr)} {Wx : WX} {r r1 r2 r4 r5 r6 : Wr} {σV : L2.St} {H : Hp} {Q : VK} {D : Ends} {n : Nat} {fx : Nat → Bool} {Dp : Post}
theorem EndsR.exX (en : EndsR W E Wx fx r n Dp D) (c : Nat) (m : M) (σ' : Env) (z : Dp.ex c m σ') (r1 : Wr) (l : Lat W E fx r r1) (σV : L2.St) (p : Pre σV r1.w) (hl : σV.length = n) : XEp W E Wx r1 σV c m σ' :=
  fun r' fp d pv x hd hh rm C hC => en.ex c m σ' z r' fp d pv x.σ (l.transF x.latF) hd hh rm C hC σV (by rw [x.w]; exact p) hl
theorem EndsR.later (e : EndsR W E Wx fx r n Dp D) (l : Lat W E fx r r1) : EndsR W E Wx fx r1 n Dp D where
  nx := fun σ' h r' es l' => e.nx σ' h r' es (l.trans l')
  rt := fun sv σ' h r' v fp es l' => e.rt sv σ' h r' v fp es (l.transF l')
  bk := fun σ' h r' es l' => e.bk σ' h r' es (l.trans l')
  ct := fun σ' h r' es l' => e.ct σ' h r' es (l.trans l')
  ex := fun c m σ' h r' fp d pv es l' => e.ex c m σ' h r' fp d pv es (l.transF l')
theorem i_snil (h : tSs Γ dp W E Wx fx .nil D σV H) : tNext D σV H := by
  obtain ⟨r, rfl, er, pre, Dp, ev, en⟩ := h
  exact en.nx _ ev r rfl (.refl er) σV pre rfl
theorem i_scons {s : QL.S} {ss : Ss} (h : tSs Γ dp W E Wx fx (.cons s ss) D σV H) : tSeq (tS Γ dp W E Wx fx s) (tSs Γ dp W E Wx fx ss) D σV H := by
  obtain ⟨r, rfl, er, pre, Dp, ev, en⟩ := h
  refine ⟨r, rfl, er, pre, _, ev, ?_⟩
  exact ⟨fun σ' h r' es l σV' p hl => ⟨r', rfl, l.er, p, Dp, by rw [es]; exact h, by rw [hl]; exact en.later l⟩, en.rt, en.bk, en.ct, en.ex⟩
theorem i_pass (h : tS Γ dp W E Wx fx .pass D σV H) : tNext D σV H := by
  obtain ⟨r, rfl, er, pre, Dp, ev, en⟩ := h
  exact en.nx _ ev r rfl (.refl er) σV pre rfl
theorem i_brk (h : tS Γ dp W E Wx fx .brk D σV H) : tBreak D σV H := by
  obtain ⟨r, rfl, er, pre, Dp, ev, en⟩ := h
  exact en.bk _ ev r rfl (.refl er) σV pre rfl
theorem i_cnt (h : tS Γ dp W E Wx fx .cnt D σV H) : tCont D σV H := by
  obtain ⟨r, rfl, er, pre, Dp, ev, en⟩ := h
  exact en.ct _ ev r rfl (.refl er) σV pre rfl
theorem i_ret {e : QL.E} (h : tS Γ dp W E Wx fx (.ret e) D σV H) : tRet (tE Γ dp W E Wx e) D σV H := by
  obtain ⟨r, rfl, er, pre, Dp, ev, en⟩ := h
  refine ⟨r, rfl, er, pre, Dp.ex, _, ev, fun c m σ' z => en.exX c m σ' z r (.refl er) σV pre rfl, fun sv σ' k r' es v fp n q => ?_⟩
  exact en.rt sv σ' k r' v fp es n.latF q
theorem i_retN (h : tS Γ dp W E Wx fx .retN D σV H) : tRetN D σV H := by
  obtain ⟨r, rfl, er, pre, Dp, ev, en⟩ := h
  exact en.rt _ _ ev r .non [] rfl (Nx.latF (.here er (.nil er))) (RM.dat .none)
theorem i_ex {e : QL.E} (h : tS Γ dp W E Wx fx (.ex e) D σV H) : tDrop (tE Γ dp W E Wx e) D σV H := by
  obtain ⟨r, rfl, er, pre, Dp, ev, en⟩ := h
  refine ⟨r, rfl, er, pre, Dp.ex, _, ev, fun c m σ' z => en.exX c m σ' z r (.refl er) σV pre rfl, fun sv σ' k r' es v fp n q => ?_⟩
  exact en.nx _ k r' es n.none.lat σV (by rw [n.w]; exact pre) rfl
theorem i_ifs {t : QL.E} {a b : Ss} (h : tS Γ dp W E Wx fx (.ifs t a b) D σV H) : tIfS (tT Γ dp W E Wx t) (tSs Γ dp W E Wx fx a) (tSs Γ dp W E Wx fx b) D σV H := by
  obtain ⟨r, rfl, er, pre, Dp, ev, en⟩ := h
  refine ⟨r, rfl, er, pre, Dp.ex, _, ev, fun c m σ' z => en.exX c m σ' z r (.refl er) σV pre rfl, fun sv σ' k r' es v fp n q => ?_⟩
  subst es
  obtain ⟨k', t', k⟩ := truthW_is k
  refine ⟨k', t', ?_⟩
  have pre' : Pre σV r'.w := by rw [n.w]; exact pre
  cases k' with
  | true => exact ⟨r', rfl, n.er, pre', Dp, k, en.later n.none.lat⟩
  | false => exact ⟨r', rfl, n.er, pre', Dp, k, en.later n.none.lat⟩
theorem Pre.set {w : List (Option V)} (p : Pre σV w) (i : Nat) (v : V) : Pre (σV.set i (some v)) (w.set i (some v)) := by
  refine ⟨by simpa using p.1, fun j u hj e => ?_⟩
  have hj : j < σV.length := by simpa using hj
  by_cases z : i = j
  · subst z
    rw [List.getElem?_set_self (by have := p.1; omega)] at e
    rw [List.getElem?_set_self hj]; exact e
  · rw [List.getElem?_set_ne z] at e ⊢
    exact p.2 j u hj e
/-- x = e -/
theorem i_asgN {i : Nat} {e : QL.E} (hi0 : fx i = false) (h : tS Γ dp W E Wx fx (.asg (.n i) e) D σV H) : tAsg (tE Γ dp W E Wx e) (gName i) D σV H := by
  obtain ⟨r, rfl, er, pre, Dp, ev, en⟩ := h
  refine ⟨r, rfl, er, pre, Dp.ex, _, ev, fun c m σ' z => en.exX c m σ' z r (.refl er) σV pre rfl, fun sv σ' k r1 es v fp n q => ?_⟩
  subst es
  obtain ⟨hi, r2, nw, k, eH, _⟩ := assignW_ex n.er q n.sep (show assignW i sv r1.σ _ from k)
  show D.nx (σV.set i (some v)) r1.H
  rw [← eH]
  refine en.nx _ k r2 rfl (Nw.lat n nw (by rw [List.length_set]) (set_ws hi0)) _ ?_ (by rw [List.length_set])
  rw [nw.w, n.w]
  exact pre.set i v
/-- x += e, ints -/
theorem i_aug {i : Nat} {e : QL.E} (hi1 : i < σV.length) (hi0 : fx i = false) (h : tS Γ dp W E Wx fx (.aug i .add e) D σV H) : tAug i (tE Γ dp W E Wx e) (rI0 fun i j => .int (i + j)) D σV H := by
  obtain ⟨r, rfl, er, pre, Dp, ev, en⟩ := h
  obtain ⟨sv, v, k, hw, q⟩ := readW_ex er (show readW r.σ i _ from ev)
  refine ⟨v, pre.2 i v hi1 hw, r, rfl, er, pre, Dp.ex, _, k, fun c m σ' z => en.exX c m σ' z r (.refl er) σV pre rfl, fun y σ' g r1 es u fp n qy => ?_⟩
  subst es
  unfold augW at g
  split at g
  · rename_i a
    obtain ⟨j, rfl, g⟩ := part_val n.er qy n.sep g
    have ev : v = .int a := RM.toInt (show RM W r.F r.H (.dat (.int a)) v [] from q)
    subst ev
    obtain ⟨hi, r2, nw, k, eH, _⟩ := assignW_ex n.er (v := .int (a + j)) (fp := []) (show RS W r1 _ [] (.v (.dat (.int (a + j)))) from RM.dat .int) (.nil n.er) g
    refine ⟨a, j, rfl, rfl, ?_⟩
    rw [← eH]
    refine en.nx _ k r2 rfl (Nw.lat n.none nw (by rw [List.length_set]) (set_ws hi0)) _ ?_ (by rw [List.length_set])
    rw [nw.w, n.w]
    exact pre.set i _
  · exact g.elim
/-- raise C(e) -/
def tRai (W : Wd) (Wx : WX) (c : Nat) (te : TE) : TS := fun _ σ H => te σ H fun v H1 => ∀ C, W.cls c = some C → ∀ d, H1 d = none → Wx (.ref C) (some d) σ (upd H1 d (.xd [(W.fld f_value, v)]))
theorem i_raise {c : Nat} {e : QL.E} (h : tS Γ dp W E Wx fx (.raise c e) D σV H) : tRai W Wx c (tE Γ dp W E Wx e) D σV H := by
  obtain ⟨r, rfl, er, pre, Dp, ev, en⟩ := h
  refine ⟨r, rfl, er, pre, Dp.ex, _, ev, fun c m σ' z => en.exX c m σ' z r (.refl er) σV pre rfl, fun sv σ' g r1 es v fp n q C hC d hd => ?_⟩
  subst es
  obtain ⟨r2, m, fq, n2, g, rm, eH⟩ := putW_ex n.er q n.sep g
  rw [← eH] at hd ⊢
  have n3 := (n.trans n2).newShared hd (.xd [(W.fld f_value, v)]) rm.there
  refine en.exX c m _ g r (.refl er) σV pre rfl ⟨fun a => r2.F a ∨ a = d, upd r2.H d (.xd [(W.fld f_value, v)]), r2.σ, r2.w, r2.fps⟩ fq d v n3 (.inr rfl) upd_same ?_ C hC
  exact rm.keep (fun _ z => .inl z) (fun a o _ e => upd_keep (ne_of_none e hd) e) fun a _ o e => upd_keep (ne_of_none e hd) e
end
end QL
end
section
set_option linter.all false
set_option maxRecDepth 100000
set_option maxHeartbeats 1000000
/-! SD2: targets. -/
namespace QL
open PySem PySem.Spec PyProof.Rows L2

mutual
/-- a target's reading -/
def gOf (K : PySem.W.Frag) : Tg → TG
  | .n i => gName i
  | .t l => gTup K l.length (gsOf K l)
def gsOf (K : PySem.W.Frag) : List Tg → TGs
  | [] => gNil
  | t :: r => gCons (gOf K t) (gsOf K r)
end
section
variable {Γ : Ctx} {dp : Bool} {W : Wd} {E : List (Addr × Nat × Addr)} {Wx : WX} {r r1 r2 r4 r5 r6 : Wr} {σV : L2.St} {H : Hp}
/-- a tuple's parts, from the k-th on -/
inductive Kid (W : Wd) (r : Wr) : SV → Nat → List V → List Addr → Prop
  | al {i k : Nat} {p : List Nat} {v0 : V} {a : Addr} {vs : List V} (hw : r.w[i]? = some (some v0)) (wk : WalkV W r.H v0 p (.ref a)) (h : r.H a = some (.tup vs)) : Kid W r (.al i p) k (vs.drop k) []
  | own {ms : List M} {vs : List V} {fp : List Addr} {k : Nat} (q : RMs W r.F r.H (ms.drop k) (vs.drop k) fp) : Kid W r (.v (.tup ms)) k (vs.drop k) fp
  | dat {ds : List D} {vs : List V} {k : Nat} (q : RDs W.K r.F r.H (ds.drop k) (vs.drop k)) : Kid W r (.v (.dat (.tuple ds))) k (vs.drop k) []
/-- a moment behind stores: the same objects -/
structure Sto (W : Wd) (E : List (Addr × Nat × Addr)) (r : Wr) (fp : List Addr) (r' : Wr) (fq : List Addr) : Prop where
  er : ER W E r'
  lw : r'.w.length = r.w.length
  H : r'.H = r.H
  F : r'.F = r.F
  sub : ∀ a ∈ r'.A ++ fq, a ∈ r.A ++ fp
  sep : Sep r' fq
theorem drop_cons {α : Type} : ∀ {xs : List α} {k : Nat} {x : α} {r : List α}, xs.drop k = x :: r → xs[k]? = some x ∧ xs.drop (k + 1) = r
  | [], k, x, r, h => by simp at h
  | a :: xs, 0, x, r, h => by simp at h; obtain ⟨rfl, rfl⟩ := h; exact ⟨rfl, rfl⟩
  | a :: xs, k + 1, x, r, h => by
    obtain ⟨h1, h2⟩ := drop_cons (xs := xs) (k := k) (by simpa using h)
    exact ⟨by simpa using h1, by simpa using h2⟩
/-- the next part: it, and the rest of them -/
theorem kid_ex (h : ER W E r) {sv : SV} {k : Nat} {vs : List V} {fp : List Addr} {K : SV → Prop} (q : Kid W r sv k vs fp) (g : childSW sv k r.σ K) :
    ∃ s u us f1 f2, K s ∧ vs = u :: us ∧ RS W r u f1 s ∧ fp = f1 ++ f2 ∧ ∀ r' : Wr, r'.H = r.H → r'.F = r.F → (∀ i, i < r.w.length → (∃ p, sv = .al i p) → r'.w[i]? = r.w[i]?) → Kid W r' sv (k + 1) us f2 := by
  cases q with
  | @dat ds vs _ q =>
    obtain ⟨d, e, g⟩ := (show ∃ d, ds[k]? = some d ∧ K (.v (.dat d)) from g)
    have hd : (ds.drop k)[0]? = some d := by simpa using e
    obtain ⟨u, h1, h2⟩ := q.get hd
    obtain ⟨us, eu⟩ : ∃ us, vs.drop k = u :: us := by
      cases z : vs.drop k with
      | nil => rw [z] at h1; simp at h1
      | cons a b => rw [z] at h1; simp at h1; subst h1; exact ⟨b, rfl⟩
    have ed := (drop_cons eu).2
    refine ⟨_, u, us, [], [], g, eu, RM.dat h2, rfl, fun r' eH eF _ => ?_⟩
    rw [← ed]
    refine .dat ?_
    rw [eH, eF]
    have := q.drop 1
    rw [List.drop_drop, List.drop_drop] at this
    simpa [Nat.add_comm] using this
  | @own ms vs fp _ q =>
    obtain ⟨m, e, g⟩ := (show ∃ m, ms[k]? = some m ∧ K (.v m) from g)
    cases z : vs.drop k with
    | nil =>
      rw [z] at q
      have hm : (ms.drop k)[0]? = some m := by simpa using e
      cases y : ms.drop k with
      | nil => rw [y] at hm; simp at hm
      | cons a b => rw [y] at q; cases q
    | cons u us =>
      cases y : ms.drop k with
      | nil => rw [y, z] at q; cases q
      | cons a b =>
        rw [y, z] at q
        obtain ⟨e1, e2⟩ := drop_cons y
        rw [e] at e1; cases e1
        have e3 := (drop_cons z).2
        cases q with
        | cons rm t =>
          refine ⟨_, u, us, _, _, g, rfl, rm, rfl, fun r' eH eF _ => ?_⟩
          have : Kid W r' (.v (.tup ms)) (k + 1) (vs.drop (k + 1)) _ := .own (fp := _) (by rw [eH, eF, e2, e3]; exact t)
          rw [e3] at this
          exact this
  | @al i _ p v0 a vs hw wk hh =>
    obtain ⟨s, es, g0⟩ := nthW_ex (show nthW r.σ i _ from g)
    cases s with
    | v m =>
      obtain ⟨c', e4, _⟩ := atW_ex g0
      have e5 := e4
      rw [atO_app, Option.bind_eq_some_iff] at e5
      obtain ⟨c, e3, e6⟩ := e5
      have q0 : RS W r (.ref a) [] (.al i p) := ⟨rfl, m, v0, c, es, hw, e3, wk⟩
      have gm : getW r.σ (.al i p) fun m' => m' = c := nthW_in es (atW_in e3 rfl)
      obtain ⟨ch, u, fq, rest, k', qc, pm, pt⟩ := childSW_ex h q0 (.nil h) gm g
      have : rest ++ fq = [] := by simpa using pm.symm
      obtain ⟨rfl, rfl⟩ := List.append_eq_nil_iff.mp this
      have hu : vs[k]? = some u := by
        rcases pt with ⟨a', o, ea, ho, e'⟩ | ⟨⟨d, z⟩, a', vs', ea, hs, e'⟩
        · cases ea
          rw [hh] at ho; cases ho; exact e'
        · subst z
          have : stepO k (.dat d) = none := rfl
          have e6 : (stepO k (.dat d)).bind (atO []) = some c' := e6
          rw [this] at e6; cases e6
      have hlt := (List.getElem?_eq_some_iff.mp hu).1
      have ed : vs.drop k = u :: vs.drop (k + 1) := by
        rw [List.drop_eq_getElem_cons hlt]
        obtain ⟨_, e⟩ := List.getElem?_eq_some_iff.mp hu
        rw [e]
      refine ⟨ch, u, vs.drop (k + 1), [], [], k', ed, qc, rfl, fun r' eH eF ew => .al (v0 := v0) ?_ (by rw [eH]; exact wk) (by rw [eH]; exact hh)⟩
      rw [ew i (List.getElem?_eq_some_iff.mp hw).1 ⟨p, rfl⟩]; exact hw
    | _ =>
      obtain ⟨s', es', z⟩ := nthW_ex (show nthW r.σ i _ from g)
      rw [es] at es'; cases es'
      exact z.elim
/-- behind stores into a target's slots: fp was used up, fz waits -/
structure Bnd (W : Wd) (E : List (Addr × Nat × Addr)) (r : Wr) (fp fz : List Addr) (r' : Wr) (hs : Nat → Bool) : Prop where
  er : ER W E r'
  lw : r'.w.length = r.w.length
  H : r'.H = r.H
  F : r'.F = r.F
  sub : ∀ a ∈ r'.A, a ∈ r.A ++ fp
  sep : Sep r' fz
  w : ∀ i, hs i = false → r'.w[i]? = r.w[i]?
theorem Sep.cut {fp fz : List Addr} (s : Sep r (fp ++ fz)) : Sep r fp := s.left
/-- the slots but some are the same -/
structure Sv (hs : Nat → Bool) (σ σ' : L2.St) : Prop where
  len : σ'.length = σ.length
  oth : ∀ i, hs i = false → σ'[i]? = σ[i]?
mutual
theorem bind_ok : ∀ (t : Tg) {r : Wr} {sv : SV} {v : V} {fp fz : List Addr} {K : Env → Prop} {Q : L2.St → Hp → Prop} {σV : L2.St}, ER W E r → RS W r v fp sv → Sep r (fp ++ fz) → Pre σV r.w → bindW t sv r.σ K →
    (∀ r' : Wr, Bnd W E r fp fz r' (fun i => tgHas i t) → K r'.σ → ∀ σV' : L2.St, Pre σV' r'.w → Sv (fun i => tgHas i t) σV σV' → Q σV' r.H) → gOf W.K t v σV r.H Q
  | .n i, r, sv, v, fp, fz, K, Q, σV, h, q, s, pre, g, fin => by
    obtain ⟨hi, r2, nw, k, eH, eF⟩ := assignW_ex h q s.left (show assignW i sv r.σ K from g)
    have sub : ∀ a ∈ r2.A, a ∈ r.A ++ fp := fun a ha => by
      rcases nw.st.a a ha with z | z
      · exact z
      · exact absurd (by rw [eH]; exact z) (nw.er.da a ha)
    have ndz : ∀ a ∈ r.A ++ fp, ∀ b ∈ fz, a ≠ b := by
      have := s.nd
      rw [← List.append_assoc] at this
      exact (List.nodup_append.mp this).2.2
    show Q (σV.set i (some v)) r.H
    refine fin r2 ⟨nw.er, by rw [nw.w, List.length_set], eH, eF, sub, ⟨List.nodup_append.mpr ⟨nw.er.nd, s.right.ndF, fun a ha b hb => ndz a (sub a ha) b hb⟩, fun a ha => by rw [eF]; exact s.right.nf a ha⟩, fun j hj => ?_⟩ k _ (by rw [nw.w]; exact pre.set i v) ⟨by rw [List.length_set], fun j hj => by
      have hne : i ≠ j := fun z => by
        subst z
        have hj : Nat.beq i i = false := hj
        rw [beq_self] at hj; cases hj
      rw [List.getElem?_set_ne hne]⟩
    have hne : i ≠ j := fun z => by
      subst z
      have hj : Nat.beq i i = false := hj
      rw [beq_self] at hj; cases hj
    rw [nw.w, List.getElem?_set_ne hne]
  | .t l, r, sv, v, fp, fz, K, Q, σV, h, q, s, pre, g, fin => by
    have kid : ∃ a vs f0, v = .ref a ∧ SqT W.K r.H a vs ∧ vs.length = l.length ∧ Kid W r sv 0 vs f0 ∧ f0.Sublist fp ∧ freeOf sv l = true ∧ bindsW l 0 sv r.σ K := by
      have g : tupLenW sv r.σ fun n => n = l.length ∧ freeOf sv l = true ∧ bindsW l 0 sv r.σ K := g
      unfold tupLenW at g
      split at g
      · cases q with
        | dat q => cases q with
          | @tuple a vs ds hh ln rd => exact ⟨a, vs, [], rfl, hh.sq, by rw [← rd.length]; exact g.1, Kid.dat (k := 0) (vs := vs) (by simpa using rd), List.nil_sublist _, g.2⟩
      · cases q with
        | @tup a vs ms fp f hh ln rs => exact ⟨a, vs, fp, rfl, .inl (.inl hh), by rw [← rs.length]; exact g.1, Kid.own (k := 0) (vs := vs) (by simpa using rs), List.Sublist.refl _, g.2⟩
      · rename_i i p
        obtain ⟨m, gm, g⟩ := getW_is g
        obtain ⟨m', fm, e, rm, _, _⟩ := getW_ex h q s.left gm
        subst e
        obtain ⟨_, m, v0, c, e1, e2, e3, w⟩ := q
        split at g
        · cases rm with
          | @tup a vs ms fp f hh ln rs => exact ⟨a, vs, [], rfl, .inl (.inl hh), by rw [← rs.length]; exact g.1, Kid.al (k := 0) (vs := vs) e2 w hh, List.nil_sublist _, g.2⟩
        · exact g.elim
      · exact g.elim
    · obtain ⟨a, vs, f0, rfl, hs, hlen, kd, sl, g⟩ := kid
      refine ⟨a, vs, rfl, hs, hlen, ?_⟩
      have s0 : Sep r (f0 ++ fz) := ⟨s.nd.sublist (List.Sublist.append_left (List.Sublist.append_right sl _) _), fun b hb => (List.mem_append.mp hb).elim (fun y => s.left.nf b (sl.mem y)) (s.right.nf b)⟩
      exact binds_ok l h kd s0 pre (fun i p e => by
        subst e
        have := g.1
        simpa [freeOf] using this) hlen g.2 fun r' b k σV' p' hl => fin r' ⟨b.er, b.lw, b.H, b.F, fun a ha => (List.mem_append.mp (b.sub a ha)).elim (List.mem_append_left _) fun y => List.mem_append_right _ (sl.mem y), b.sep, b.w⟩ k σV' p' hl
theorem binds_ok : ∀ (l : List Tg) {r : Wr} {sv : SV} {k : Nat} {vs : List V} {fp fz : List Addr} {K : Env → Prop} {Q : L2.St → Hp → Prop} {σV : L2.St}, ER W E r → Kid W r sv k vs fp → Sep r (fp ++ fz) → Pre σV r.w → (∀ i p, sv = .al i p → tgsHas i l = false) → vs.length = l.length → bindsW l k sv r.σ K →
    (∀ r' : Wr, Bnd W E r fp fz r' (fun i => tgsHas i l) → K r'.σ → ∀ σV' : L2.St, Pre σV' r'.w → Sv (fun i => tgsHas i l) σV σV' → Q σV' r.H) → gsOf W.K l vs σV r.H Q
  | [], r, sv, k, vs, fp, fz, K, Q, σV, h, kd, s, pre, fr, hl, g, fin => by
    have : vs = [] := List.eq_nil_of_length_eq_zero (by simpa using hl)
    subst this
    exact ⟨rfl, fin r ⟨h, rfl, rfl, rfl, fun a ha => List.mem_append_left _ ha, s.right, fun _ _ => rfl⟩ g σV pre ⟨rfl, fun _ _ => rfl⟩⟩
  | t :: l, r, sv, k, vs, fp, fz, K, Q, σV, h, kd, s, pre, fr, hl, g, fin => by
    obtain ⟨sx, u, us, f1, f2, g, rfl, q, rfl, next⟩ := kid_ex h kd (show childSW sv k r.σ fun s => bindW t s r.σ fun σ' => bindsW l (k + 1) sv σ' K from g)
    refine ⟨u, us, rfl, ?_⟩
    have s' : Sep r (f1 ++ (f2 ++ fz)) := by rw [← List.append_assoc]; exact s
    refine bind_ok t (fz := f2 ++ fz) h q s' pre g fun r' b g σV' p' hl' => ?_
    have kd' := next r' b.H b.F fun i hi hp => b.w i (by
      obtain ⟨p, e⟩ := hp
      have := fr i p e
      simp only [tgsHas, Bool.or_eq_false_iff] at this
      exact this.1)
    rw [← b.H]
    refine binds_ok l b.er kd' b.sep p' (fun i p e => by
      have := fr i p e
      simp only [tgsHas, Bool.or_eq_false_iff] at this
      exact this.2) (by simpa using hl) g fun r2 b2 k2 σV2 p2 hl2 => ?_
    rw [b.H]
    refine fin r2 ⟨b2.er, b2.lw.trans b.lw, b2.H.trans b.H, b2.F.trans b.F, fun a ha => ?_, b2.sep, fun i hi => ?_⟩ k2 σV2 p2 ⟨hl2.len.trans hl'.len, fun i hi => by
      have hi : (tgHas i t || tgsHas i l) = false := hi
      rw [Bool.or_eq_false_iff] at hi
      rw [hl2.oth i hi.2, hl'.oth i hi.1]⟩
    · rcases List.mem_append.mp (b2.sub a ha) with z | z
      · rcases List.mem_append.mp (b.sub a z) with z | z
        · exact List.mem_append_left _ z
        · exact List.mem_append_right _ (List.mem_append_left _ z)
      · exact List.mem_append_right _ (List.mem_append_right _ z)
    · have hi : (tgHas i t || tgsHas i l) = false := hi
      rw [Bool.or_eq_false_iff] at hi
      rw [b2.w i hi.2, b.w i hi.1]
end
/-- t = e -/
theorem i_asg {fx : Nat → Bool} {D : Ends} {t : Tg} {e : QL.E} (ht : ∀ i, tgHas i t = true → fx i = false) (h : tS Γ dp W E Wx fx (.asg t e) D σV H) : tAsg (tE Γ dp W E Wx e) (gOf W.K t) D σV H := by
  obtain ⟨r, rfl, er, pre, Dp, ev, en⟩ := h
  refine ⟨r, rfl, er, pre, Dp.ex, _, ev, fun c m σ' z => en.exX c m σ' z r (.refl er) σV pre rfl, fun sv σ' k r1 es v fp n q => ?_⟩
  subst es
  have s' : Sep r1 (fp ++ []) := by rw [List.append_nil]; exact n.sep
  refine bind_ok t (fz := []) n.er q s' (by rw [n.w]; exact pre) k fun r2 b k2 σV' p' hl => ?_
  rw [← b.H]
  refine en.nx _ k2 r2 rfl ⟨b.er, by rw [b.lw, n.w], fun j hj => by rw [b.w j (by cases z : tgHas j t with | false => rfl | true => rw [ht j z] at hj; cases hj), n.w], ?_⟩ σV' p' hl.len
  have st1 := n.st
  rw [List.append_nil] at st1
  refine st1.trans ⟨fun a z => by rw [b.F]; exact z, fun a o e _ => by rw [b.H]; exact e, fun a ha => .inl (b.sub a ha), fun a z => .inl (by rw [← b.F]; exact z)⟩
end
end QL
end
section
set_option linter.all false
set_option maxRecDepth 100000
set_option maxHeartbeats 1000000
/-! SD3: fields stored. -/
namespace QL
open PySem PySem.Spec PyProof.Rows L2

section
variable {W : Wd} {F : Addr → Prop} {H : Hp}
theorem putF_same {f : Str} {v u : V} {r : List (Str × V)} : putF f v ((f, u) :: r) = (f, v) :: r := by unfold putF; simp
theorem putF_other {f g : Str} {v u : V} {r : List (Str × V)} (h : g ≠ f) : putF f v ((g, u) :: r) = (g, u) :: putF f v r := by rw [putF]; simp [h]
theorem RFs.put {k : Nat} {m : M} {y : V} {fm : List Addr} (rm : RM W F H m y fm) : ∀ {ks : List Nat} {ms : List M} {fs : List (Str × V)} {fp : List Addr} {q : Nat}, RFs W F H ks ms fs fp → ixOf k ks = some q →
    ∃ fp', RFs W F H ks (ms.set q m) (putF (W.fld k) y fs) fp' ∧ ∃ fc rest, fp.Perm (rest ++ fc) ∧ fp'.Perm (rest ++ fm)
  | [], _, _, _, _, .nil, e => by simp [ixOf] at e
  | j :: ks, _, _, _, q, .cons (fp := fp) (fq := fq) r t, e => by
    unfold ixOf at e
    split at e
    · rename_i z
      cases e
      have z := Nat.eq_of_beq_eq_true z
      subst z
      exact ⟨fm ++ fq, by rw [putF_same]; exact .cons rm t, fp, fq, List.perm_append_comm, List.perm_append_comm⟩
    · rename_i z
      rw [Option.map_eq_some_iff] at e
      obtain ⟨q', e, rfl⟩ := e
      obtain ⟨fp', a, fc, rest, b, c⟩ := RFs.put rm t e
      have ne : W.fld j ≠ W.fld k := fun y => by
        have := W.fldInj _ _ y
        subst this
        rw [beq_self] at z; cases z
      refine ⟨fp ++ fp', by rw [putF_other ne]; exact .cons r a, fc, fp ++ rest, ?_, ?_⟩
      · rw [List.append_assoc]; exact List.Perm.append_left _ b
      · rw [List.append_assoc]; exact List.Perm.append_left _ c
theorem RFs.putNew {k : Nat} {m : M} {y : V} {fm : List Addr} (rm : RM W F H m y fm) : ∀ {ks : List Nat} {ms : List M} {fs : List (Str × V)} {fp : List Addr}, RFs W F H ks ms fs fp → k ∉ ks →
    RFs W F H (ks ++ [k]) (ms ++ [m]) (putF (W.fld k) y fs) (fp ++ fm)
  | [], _, _, _, .nil, _ => by
    have z : RFs W F H [k] [m] [(W.fld k, y)] (fm ++ []) := .cons rm .nil
    rw [List.append_nil] at z
    exact z
  | j :: ks, _, _, _, .cons (fp := fp) (fq := fq) r t, h => by
    have ne : W.fld j ≠ W.fld k := fun y => h (by rw [W.fldInj _ _ y]; exact List.mem_cons_self)
    rw [putF_other ne, List.append_assoc]
    exact .cons r (RFs.putNew rm t fun z => h (List.mem_cons_of_mem _ z))
theorem RFs.updAt {ks : List Nat} {ms : List M} {fs : List (Str × V)} {fp : List Addr} {l : Addr} {o : HO} (q : RFs W F H ks ms fs fp) (nf : ¬ F l) (n : l ∉ fp) : RFs W F (L2.upd H l o) ks ms fs fp :=
  q.keep (fun _ z => z) (fun a o' f e => upd_keep (fun z => nf (by rw [← z]; exact f)) e) fun a ha o' e => upd_keep (fun z => n (by rw [← z]; exact ha)) e
theorem fldIns_ex {c : M} {f : Nat} {m : M} {K : M → Prop} (g : fldIns c f m K) : ∃ cc ks ms, c = .ins false cc ks ms ∧ ks.length ≤ 900 ∧ ((∃ q, ixOf f ks = some q ∧ K (.ins false cc ks (ms.set q m))) ∨ (ixOf f ks = none ∧ K (.ins false cc (ks ++ [f]) (ms ++ [m])))) := by
  unfold fldIns at g
  split at g
  · rename_i cc ks ms
    cases z : Nat.ble ks.length 900 with
    | false => rw [z] at g; exact g.elim
    | true =>
      rw [z] at g
      refine ⟨cc, ks, ms, rfl, Nat.le_of_ble_eq_true z, ?_⟩
      dsimp only at g
      split at g
      · rename_i q e; exact .inl ⟨q, e, g⟩
      · rename_i e; exact .inr ⟨e, g⟩
  · exact g.elim
end
section
variable {Γ : Ctx} {dp : Bool} {W : Wd} {E : List (Addr × Nat × Addr)} {Wx : WX} {r r1 r2 r3 r4 r5 r6 : Wr} {σV : L2.St} {H : Hp} {D : Ends}
/-- a field of an own instance is stored: y (m, with fz) waits -/
theorem fld_put {x : SV} {vx y : V} {f : Nat} {m : M} {fx fz : List Addr} {K : Env → Prop} (n : Nx W E r [] r3.σ r3 (fx ++ fz)) (q : RS W r3 vx fx x) (rm : RM W r3.F r3.H m y fz) (g : putFldW x f m r3.σ K) :
    ∃ (a C dx : Addr) (c : Nat) (fs : List (Str × V)) (r5 : Wr), vx = .ref a ∧ W.ins c = some C ∧ r3.H a = some (.ins C dx fs) ∧ fs.length < 1000 ∧ Nx W E r [] r5.σ r5 [] ∧ K r5.σ ∧ r5.H = upd r3.H a (.ins C dx (putF (W.fld f) y fs)) := by
  obtain ⟨c0, gm, g⟩ := getW_is (show getW r3.σ x _ from g)
  obtain ⟨cc, ks, ms, rfl, lk, g⟩ := fldIns_ex g
  cases x with
  | al i p =>
    obtain ⟨rfl, _⟩ := id q
    rw [List.nil_append] at n
    have main : ∀ m' : M, (∀ (a C dx : Addr) (fs : List (Str × V)) (fp : List Addr), W.ins cc = some C → r3.H a = some (.ins C dx fs) → ks.Nodup → RFs W r3.F r3.H ks ms fs fp → ¬ r3.F a → a ∉ fp → a ∉ fz → (∀ b ∈ fp, b ∉ fz) → fp.Nodup →
        ∃ fq, RM W r3.F (upd r3.H a (.ins C dx (putF (W.fld f) y fs))) m' (.ref a) (a :: fq) ∧ (∀ b ∈ fq, b ∈ fp ∨ b ∈ fz) ∧ fq.Nodup ∧ a ∉ fq) → chgW (.al i p) m' r3.σ K →
        ∃ (a C dx : Addr) (c : Nat) (fs : List (Str × V)) (r5 : Wr), vx = .ref a ∧ W.ins c = some C ∧ r3.H a = some (.ins C dx fs) ∧ fs.length < 1000 ∧ Nx W E r [] r5.σ r5 [] ∧ K r5.σ ∧ r5.H = upd r3.H a (.ins C dx (putF (W.fld f) y fs)) := fun m' mk g => by
      obtain ⟨fq, rc, ndq, fA, step⟩ := mut_ex n.er q gm (show setMW r3.σ i p m' _ from g)
      cases rc with
      | @ins a dx C _ _ fs _ fp hc hh nk rf =>
        have aF : ¬ r3.F a := n.er.nf a (fA a List.mem_cons_self)
        have az : a ∉ fz := fun z => n.sep.apart a z (fA a List.mem_cons_self)
        have ndf := List.nodup_cons.mp ndq
        obtain ⟨fq', rm', sub, ndq', na⟩ := mk a C dx fs fp hc hh nk rf aF ndf.1 az (fun b hb z => n.sep.apart b z (fA b (List.mem_cons_of_mem _ hb))) ndf.2
        obtain ⟨r5, n5, k, eH, _⟩ := step (upd r3.H a (.ins C dx (putF (W.fld f) y fs))) (a :: fq') [] fz (fun b o e nb => upd_keep (fun z => nb (by rw [z]; exact List.mem_cons_self)) e) (fun b hb => by
          by_cases z : b = a
          · subst z; rw [upd_same]; simp
          · rw [upd_ne z]; exact rf.there b ((List.mem_cons.mp hb).resolve_left z)) rm' n.sep rm.there (by rw [List.append_nil]; exact List.nodup_cons.mpr ⟨na, ndq'⟩) (fun b hb => by
          rw [List.append_nil] at hb
          rcases List.mem_cons.mp hb with z | z
          · exact .inl (by rw [z]; exact List.mem_cons_self)
          · exact (sub b z).imp (List.mem_cons_of_mem _) id)
        exact ⟨a, C, dx, cc, fs, r5, rfl, hc, hh, by have := rf.len; omega, n.trans n5, k, eH⟩
    rcases g with ⟨j, ej, g⟩ | ⟨ej, g⟩
    · refine main _ (fun a C dx fs fp hc hh nk rf aF nap az dj ndf => ?_) g
      obtain ⟨fp', rf', fc, rest, p1, p2⟩ := RFs.put (rm.updAt (o := .ins C dx (putF (W.fld f) y fs)) aF az) (rf.updAt aF nap) ej
      have inn : ∀ b ∈ rest, b ∈ fp := fun b hb => p1.mem_iff.mpr (List.mem_append_left _ hb)
      refine ⟨fp', .ins hc upd_same nk rf', fun b hb => (List.mem_append.mp (p2.mem_iff.mp hb)).imp (inn b) id, perm_nodup p2 (List.nodup_append.mpr ⟨(List.nodup_append.mp (perm_nodup p1.symm ndf)).1, n.sep.ndF, fun b hb b' hb' z => by subst z; exact dj b (inn b hb) hb'⟩), fun z => ?_⟩
      rcases List.mem_append.mp (p2.mem_iff.mp z) with z | z
      · exact nap (inn a z)
      · exact az z
    · refine main _ (fun a C dx fs fp hc hh nk rf aF nap az dj ndf => ?_) g
      have nin := ixOf_none ej
      refine ⟨fp ++ fz, .ins hc upd_same ?_ (RFs.putNew (rm.updAt (o := .ins C dx (putF (W.fld f) y fs)) aF az) (rf.updAt aF nap) nin), fun b hb => List.mem_append.mp hb, List.nodup_append.mpr ⟨ndf, n.sep.ndF, fun b hb b' hb' z => by subst z; exact dj b hb hb'⟩, fun z => (List.mem_append.mp z).elim nap az⟩
      exact List.nodup_append.mpr ⟨nk, by simp, fun b hb b' hb' z => by
        have : b' = f := by simpa using hb'
        subst this; subst z; exact nin hb⟩
  | _ => rcases g with ⟨_, _, g⟩ | ⟨_, g⟩ <;> exact (show False from g).elim
def tSetF (W : Wd) (ta tv : TE) (f : Nat) : TS := fun D σ H => tv σ H fun y H1 => ta σ H1 fun x H2 => ∃ (a C dx : Addr) (c : Nat) (fs : List (Str × V)), x = .ref a ∧ W.ins c = some C ∧ H2 a = some (.ins C dx fs) ∧ fs.length < 1000 ∧ D.nx σ (upd H2 a (.ins C dx (putF (W.fld f) y fs)))
theorem i_setFld {fx : Nat → Bool} {a e : QL.E} {f : Nat} (h : tS Γ dp W E Wx fx (.setFld a f e) D σV H) : tSetF W (tE Γ dp W E Wx a) (tE Γ dp W E Wx e) f D σV H := by
  obtain ⟨r, rfl, er, pre, Dp, ev, en⟩ := h
  have hX : ∀ c m σ', Dp.ex c m σ' → XEp W E Wx r σV c m σ' := fun c m σ' z => en.exX c m σ' z r (.refl er) σV pre rfl
  refine ⟨r, rfl, er, pre, Dp.ex, _, ev, hX, fun sv σ' g r1 es y fp n q => ?_⟩
  subst es
  obtain ⟨r2, m, fz, n2, g, rm, eH⟩ := putW_ex n.er q n.sep g
  rw [← eH]
  show tG W E Wx (evE Γ dp a) (fun sv r' v fp => RS W r' v fp sv) σV r2.H fun x H2 => ∃ (a C dx : Addr) (c : Nat) (fs : List (Str × V)), x = .ref a ∧ W.ins c = some C ∧ H2 a = some (.ins C dx fs) ∧ fs.length < 1000 ∧ D.nx σV (upd H2 a (.ins C dx (putF (W.fld f) y fs)))
  refine goWait (n.trans n2) rm.there hX pre g fun x σ' g r3 es vx fx n3 n3' qx => ?_
  subst es
  obtain ⟨b, C, dx, c, fs, r5, rfl, hc, hh, ln, n5, k, eH5⟩ := fld_put n3' qx (Nx.waits n2.er n2.sep n3 rm) g
  refine ⟨b, C, dx, c, fs, rfl, hc, hh, ln, ?_⟩
  rw [← eH5]
  exact en.nx _ k r5 rfl n5.lat σV (by rw [n5.w]; exact pre) rfl
end
end QL
end
section
set_option linter.all false
set_option maxRecDepth 100000
set_option maxHeartbeats 1000000
/-! SE1: what a loop walks: its items come one by one, what is left waits. -/
namespace QL
open PySem PySem.Spec PyProof.Rows L2

/-- the moment with other objects -/
abbrev Wr.at (r : Wr) (F : Addr → Prop) (H : Hp) : Wr := { r with F := F, H := H }
/-- a later moment, fz waits -/
structure Lz (W : Wd) (E : List (Addr × Nat × Addr)) (r r' : Wr) (fz : List Addr) : Prop where
  er : ER W E r'
  f : ∀ a, r.F a → r'.F a
  k : ∀ a o, r.F a → r.H a = some o → r'.H a = some o
  z : ∀ a ∈ fz, ∀ o, r.H a = some o → r'.H a = some o
  s : Sep r' fz
/-- a loop's item, at a value -/
def BR (W : Wd) (r : Wr) (fp : List Addr) (x : V) : BV → Prop
  | .one sv => RS W r x fp sv
  | .two a b => ∃ T u1 u2 f1 f2, x = .ref T ∧ r.F T ∧ r.H T = some (.tup [u1, u2]) ∧ RS W r u1 f1 a ∧ RS W r u2 f2 b ∧ fp = f1 ++ f2
/-- the objects behind an item's coming -/
structure Gw (r : Wr) (F' : Addr → Prop) (H' : Hp) : Prop where
  f : ∀ a, r.F a → F' a
  k : ∀ a o, r.H a = some o → H' a = some o
  g : ∀ a, F' a → r.F a ∨ r.H a = none
  d : ∀ a, F' a → H' a ≠ none
def Wtg (W : Wd) (E : List (Addr × Nat × Addr)) (J : L2.It) : List BV → Nat → Wr → List Addr → Prop
  | [], i, r, fz => ∀ r', Lz W E r r' fz → J.stop i r'.H
  | b :: l, i, r, fz => ∀ r', Lz W E r r' fz → J.go i r'.H ∧ ∀ x H', J.yld i r'.H x H' → ∃ (F' : Addr → Prop) (f1 f2 : List Addr), Gw r' F' H' ∧ fz.Perm (f1 ++ f2) ∧ BR W (r'.at F' H') f1 x b ∧ Wtg W E J l (i + 1) (r'.at F' H') f2
section
variable {W : Wd} {E : List (Addr × Nat × Addr)} {r r1 r2 r4 r5 r6 : Wr} {J : L2.It}
theorem Lz.trans {fz : List Addr} (a : Lz W E r r1 fz) (b : Lz W E r1 r2 fz) : Lz W E r r2 fz := ⟨b.er, fun x h => b.f x (a.f x h), fun x o h e => b.k x o (a.f x h) (a.k x o h e), fun x h o e => b.z x h o (a.z x h o e), b.s⟩
theorem Wtg.later : ∀ {l : List BV} {i : Nat} {fz : List Addr}, Wtg W E J l i r fz → Lz W E r r1 fz → Wtg W E J l i r1 fz
  | [], _, _, h, a => fun r' b => h r' (a.trans b)
  | _ :: _, _, _, h, a => fun r' b => h r' (a.trans b)
theorem Gw.refl (h : ER W E r) : Gw r r.F r.H := ⟨fun _ z => z, fun _ _ z => z, fun _ z => .inl z, h.df⟩
/-- nothing new -/
theorem Lz.rd {fz : List Addr} {d : D} {v : V} (a : Lz W E r r1 fz) (q : RD W.K r.F r.H d v) : RD W.K r1.F r1.H d v := q.keep a.f a.k
theorem Lz.rds {fz : List Addr} {d : List D} {v : List V} (a : Lz W E r r1 fz) (q : RDs W.K r.F r.H d v) : RDs W.K r1.F r1.H d v := q.keep a.f a.k
theorem Lz.rms {fz : List Addr} {fp : List Addr} {ms : List M} {vs : List V} (a : Lz W E r r1 fz) (q : RMs W r.F r.H ms vs fp) (s : ∀ x ∈ fp, x ∈ fz) : RMs W r1.F r1.H ms vs fp := q.keep a.f a.k fun x hx => a.z x (s x hx)
theorem Sep.sub {fp fq : List Addr} (s : Sep r fp) (h : fq.Sublist fp) : Sep r fq := ⟨s.nd.sublist (List.Sublist.append_left h _), fun a ha => s.nf a (h.mem ha)⟩
theorem Sep.perm {fp fq : List Addr} (s : Sep r fp) (p : fp.Perm fq) : Sep r fq := ⟨(List.Perm.nodup_iff (List.Perm.append_left _ p)).mp s.nd, fun a ha => s.nf a (p.mem_iff.mpr ha)⟩
theorem Wr.at_self : r.at r.F r.H = r := rfl
/-! #### lists -/
/-- a list stands: shared, or among what waits -/
def LstAt (r : Wr) (fz : List Addr) (a : Addr) (vs : List V) : Prop := r.H a = some (.lst vs) ∧ (r.F a ∨ a ∈ fz)
theorem LstAt.later {fz : List Addr} {a : Addr} {vs : List V} (h : LstAt r fz a vs) (z : Lz W E r r1 fz) : LstAt r1 fz a vs := by
  obtain ⟨e, o | o⟩ := h
  · exact ⟨z.k a _ o e, .inl (z.f a o)⟩
  · exact ⟨z.z a o _ e, .inr o⟩
theorem LstAt.sq {fz : List Addr} {a : Addr} {vs : List V} (h : LstAt r fz a vs) : SqL W.K r.H a vs := .inl (.inl h.1)
theorem drop_get {α : Type} {vs us : List α} {i : Nat} {u : α} (h : vs.drop i = u :: us) : vs[i]? = some u ∧ vs.drop (i + 1) = us := by
  constructor
  · have : (vs.drop i)[0]? = some u := by rw [h]; rfl
    simpa using this
  · have : (vs.drop i).drop 1 = us := by rw [h]; rfl
    simpa [Nat.add_comm] using this
theorem drop_end {α : Type} {vs : List α} {i : Nat} (h : vs.drop i = []) : vs.length ≤ i := by simpa using h
/-- own things of a list, walked -/
theorem wtg_list {a : Addr} {vs : List V} (fa : List Addr) : ∀ {ms : List M} {us : List V} {fr : List Addr} {i : Nat} {r : Wr}, LstAt r fa a vs → vs.drop i = us → RMs W r.F r.H ms us fr → Wtg W E (Itl W.K a) (ms.map fun m => .one (.v m)) i r (fa ++ fr)
  | _, _, _, i, r, h, e, .nil => fun r' z => by
    have z' : Lz W E r r' fa := ⟨z.er, z.f, z.k, fun x hx => z.z x (by simp [hx]), z.s.left⟩
    exact ⟨vs, (h.later z').sq, drop_end e⟩
  | _, _, _, i, r, h, e, .cons (fp := fp) (fq := fq) q t => fun r' z => by
    have z' : Lz W E r r' fa := ⟨z.er, z.f, z.k, fun x hx => z.z x (List.mem_append_left _ hx), z.s.left⟩
    have h' := h.later z'
    obtain ⟨e1, e2⟩ := drop_get e
    refine ⟨⟨vs, _, h'.sq, e1⟩, fun x H' y => ?_⟩
    obtain ⟨rfl, y⟩ := y
    have ex := y vs h'.sq
    rw [e1] at ex
    cases ex
    refine ⟨r'.F, fp, fa ++ fq, .refl z.er, ?_, q.keep z.f z.k fun x hx => z.z x (by simp [hx]), wtg_list fa h' e2 (t.keep z.f z.k fun x hx => z.z x (by simp [hx]))⟩
    rw [← List.append_assoc, ← List.append_assoc]
    exact List.Perm.append_right _ List.perm_append_comm
theorem RDs.rms {F : Addr → Prop} {H : Hp} : ∀ {ds : List D} {vs : List V}, RDs W.K F H ds vs → RMs W F H (ds.map .dat) vs []
  | _, _, .nil => .nil
  | _, _, .cons r t => by
    have : RMs W F H (M.dat _ :: List.map M.dat _) (_ :: _) ([] ++ []) := .cons (.dat r) (RDs.rms t)
    exact this
theorem map_one (ds : List D) : ds.map oneD = (ds.map M.dat).map fun m => BV.one (.v m) := by rw [List.map_map]; rfl
theorem wtg_dlist {a : Addr} {vs : List V} {ds : List D} {fa : List Addr} (h : LstAt r fa a vs) (q : RDs W.K r.F r.H ds vs) : Wtg W E (Itl W.K a) (ds.map oneD) 0 r fa := by
  have := wtg_list (E := E) fa h (i := 0) rfl q.rms
  rw [List.append_nil] at this
  rw [map_one]; exact this
/-! #### tuples -/
theorem TupF.later {fz : List Addr} {a : Addr} {vs : List V} (h : TupF W.K r.F r.H a vs) (z : Lz W E r r1 fz) : TupF W.K r1.F r1.H a vs := h.keep z.f z.k
theorem wtg_tup {a : Addr} {vs : List V} : ∀ {ms : List M} {us : List V} {fr : List Addr} {i : Nat} {r : Wr}, TupF W.K r.F r.H a vs → vs.drop i = us → RMs W r.F r.H ms us fr → Wtg W E (Itt W.K a) (ms.map fun m => .one (.v m)) i r fr
  | _, _, _, i, r, h, e, .nil => fun r' z => ⟨vs, (h.later z).sq, drop_end e⟩
  | _, _, _, i, r, h, e, .cons (fp := fp) (fq := fq) q t => fun r' z => by
    have h' := h.later z
    obtain ⟨e1, e2⟩ := drop_get e
    refine ⟨⟨vs, _, h'.sq, e1⟩, fun x H' y => ?_⟩
    obtain ⟨rfl, y⟩ := y
    have ex := y vs h'.sq
    rw [e1] at ex
    cases ex
    exact ⟨r'.F, fp, fq, .refl z.er, .refl _, q.keep z.f z.k fun x hx => z.z x (by simp [hx]), wtg_tup h' e2 (t.keep z.f z.k fun x hx => z.z x (by simp [hx]))⟩
theorem wtg_dtup {a : Addr} {vs : List V} {ds : List D} (h : TupF W.K r.F r.H a vs) (q : RDs W.K r.F r.H ds vs) : Wtg W E (Itt W.K a) (ds.map oneD) 0 r [] := by
  rw [map_one]; exact wtg_tup h (i := 0) rfl q.rms
/-! #### texts, ranges -/
theorem wtg_signs {x : Str} (ok : PyData.strOk x = true) : ∀ {us : List Nat} {i : Nat} {r : Wr}, (x.cps.toList.drop i) = us → Wtg W E (Its x) ((us.map fun c => PyData.str ⟨#[c]⟩).map oneD) i r []
  | [], i, r, e => fun r' z => by
    have := drop_end e
    show x.cps.size ≤ i
    simpa using this
  | c :: us, i, r, e => fun r' z => by
    obtain ⟨e1, e2⟩ := drop_get e
    have e3 : x.cps[i]? = some c := by simpa using e1
    obtain ⟨hlt, _⟩ := Array.getElem?_eq_some_iff.mp e3
    refine ⟨hlt, fun v H' y => ?_⟩
    obtain ⟨rfl, c', e4, rfl⟩ := y
    rw [e3] at e4
    cases e4
    refine ⟨r'.F, [], [], .refl z.er, by simp, RM.dat (.str ?_ (by show 1 ≤ sizeLine; decide)), wtg_signs ok e2⟩
    unfold PyData.strOk at ok ⊢
    rw [Array.all_eq_true'] at ok
    simpa using ok c (Array.mem_of_getElem? e3)
theorem wtg_str {x : Str} (ok : PyData.strOk x = true) : Wtg W E (Its x) ((signs x).map oneD) 0 r [] := wtg_signs ok (i := 0) rfl
theorem wtg_range : ∀ {n : Nat} {i : Nat} {lo : Int} {N : Nat} {r : Wr}, i + n = N → Wtg W E (Itr lo N) (rangeD (lo + (i : Nat)) n) i r []
  | 0, i, lo, N, r, e => fun r' z => by
    show N ≤ i
    omega
  | n + 1, i, lo, N, r, e => fun r' z => by
    refine ⟨(by show i < N; omega), fun v H' y => ?_⟩
    obtain ⟨rfl, rfl⟩ := y
    have := wtg_range (n := n) (i := i + 1) (lo := lo) (N := N) (r := r') (by omega)
    have e1 : lo + ((i + 1 : Nat) : Int) = lo + (i : Nat) + 1 := by omega
    rw [e1] at this
    exact ⟨r'.F, [], [], .refl z.er, by simp, RM.dat .int, this⟩
theorem wtg_rangeB : ∀ {n : Nat} {i : Nat} {lo : Int} {N : Nat} {r : Wr}, i + n = N → Wtg W E (Itc lo (-1) N) (rangeB (lo - (i : Nat)) n) i r []
  | 0, i, lo, N, r, e => fun r' z => by
    show N ≤ i
    omega
  | n + 1, i, lo, N, r, e => fun r' z => by
    refine ⟨(by show i < N; omega), fun v H' y => ?_⟩
    obtain ⟨rfl, rfl⟩ := y
    have := wtg_rangeB (n := n) (i := i + 1) (lo := lo) (N := N) (r := r') (by omega)
    have e1 : lo - ((i + 1 : Nat) : Int) = lo - (i : Nat) - 1 := by omega
    have e2 : lo + (i : Nat) * (-1) = lo - (i : Nat) := by omega
    rw [e1] at this
    refine ⟨r'.F, [], [], .refl z.er, by simp, ?_, this⟩
    rw [e2]
    exact RM.dat .int
/-! #### numbered items of a list -/
theorem wtg_enum {a : Addr} {vs : List V} (fa : List Addr) : ∀ {ms : List M} {us : List V} {fr : List Addr} {i : Nat} {r : Wr}, LstAt r fa a vs → vs.drop i = us → RMs W r.F r.H ms us fr → Wtg W E (Ite W.K a) (numbM i ms) i r (fa ++ fr)
  | _, _, _, i, r, h, e, .nil => fun r' z => by
    have z' : Lz W E r r' fa := ⟨z.er, z.f, z.k, fun x hx => z.z x (by simp [hx]), z.s.left⟩
    exact ⟨vs, (h.later z').sq, drop_end e⟩
  | _, _, _, i, r, h, e, .cons (fp := fp) (fq := fq) q t => fun r' z => by
    have z' : Lz W E r r' fa := ⟨z.er, z.f, z.k, fun x hx => z.z x (List.mem_append_left _ hx), z.s.left⟩
    have h' := h.later z'
    obtain ⟨e1, e2⟩ := drop_get e
    refine ⟨⟨vs, _, h'.sq, e1⟩, fun x H' y => ?_⟩
    obtain ⟨T, x, rfl, hT, rfl, y⟩ := y
    have ex := y vs h'.sq
    rw [e1] at ex
    have ex := Option.some.inj ex
    rw [ex] at q
    have up : ∀ a o, r'.H a = some o → upd r'.H T (.tup [.int (i : Nat), x]) a = some o := fun a o e => upd_keep (ne_of_none e hT) e
    refine ⟨fun b => r'.F b ∨ b = T, fp, fa ++ fq, ⟨fun _ z => .inl z, up, fun b z => z.imp id fun y => by rw [y]; exact hT, fun b z => ?_⟩, ?_, ⟨T, _, _, [], fp, rfl, .inr rfl, upd_same, RM.dat .int, ?_, rfl⟩, ?_⟩
    · rcases z with y | rfl
      · cases e : r'.H b with
        | none => exact absurd e (z'.er.df b y)
        | some o => rw [up b o e]; simp
      · rw [upd_same]; simp
    · rw [← List.append_assoc, ← List.append_assoc]
      exact List.Perm.append_right _ List.perm_append_comm
    · exact q.keep (fun b hb => .inl (z.f b hb)) (fun b o f e => up b o (z.k b o f e)) fun b hb o e => up b o (z.z b (by simp [hb]) o e)
    · refine wtg_enum fa (r := r'.at _ _) ⟨up _ _ h'.1, h'.2.imp .inl id⟩ e2 (t.keep (fun b hb => .inl (z.f b hb)) (fun b o f e => up b o (z.k b o f e)) fun b hb o e => up b o (z.z b (by simp [hb]) o e))
theorem numbD_M : ∀ (k : Nat) (ds : List D), numbD k ds = numbM k (ds.map .dat)
  | _, [] => rfl
  | k, d :: r => by
    show BV.two _ _ :: numbD (k + 1) r = BV.two _ _ :: numbM (k + 1) (r.map .dat)
    rw [numbD_M (k + 1) r]
theorem wtg_denum {a : Addr} {vs : List V} {ds : List D} {fa : List Addr} (h : LstAt r fa a vs) (q : RDs W.K r.F r.H ds vs) : Wtg W E (Ite W.K a) (numbD 0 ds) 0 r fa := by
  have := wtg_enum (E := E) fa h (i := 0) rfl q.rms
  rw [List.append_nil] at this
  rw [numbD_M]; exact this
end
end QL
end
section
set_option linter.all false
set_option maxRecDepth 100000
set_option maxHeartbeats 1000000
/-! SE2: for loops. -/
namespace QL
open PySem PySem.Spec PyProof.Rows L2

section
variable {Γ : Ctx} {dp : Bool} {W : Wd} {E : List (Addr × Nat × Addr)} {Wx : WX} {r r0 r1 r2 r3 r4 r5 r6 : Wr} {σV : L2.St} {H : Hp} {Q : VK} {D : Ends} {n : Nat} {fx : Nat → Bool} {Dp : Post} {J : L2.It}
theorem Bnd.less {fp fq fz : List Addr} {r' : Wr} {hs : Nat → Bool} (b : Bnd W E r fp fz r' hs) (s : fq.Sublist fz) : Bnd W E r fp fq r' hs := ⟨b.er, b.lw, b.H, b.F, b.sub, b.sep.sub s, b.w⟩
/-- an item stored -/
theorem bindB_ok {t : Tg} {b : BV} {x : V} {fp fz : List Addr} {K : QL.Env → Prop} {Q : L2.St → Hp → Prop} (h : ER W E r) (q : BR W r fp x b) (s : Sep r (fp ++ fz)) (pre : Pre σV r.w) (g : bindBW t b r.σ K)
    (fin : ∀ r' : Wr, Bnd W E r fp fz r' (fun i => tgHas i t) → K r'.σ → ∀ σV' : L2.St, Pre σV' r'.w → Sv (fun i => tgHas i t) σV σV' → Q σV' r.H) : gOf W.K t x σV r.H Q := by
  cases b with
  | one sv => exact bind_ok t h q s pre g fin
  | two x1 y1 =>
    obtain ⟨T, u1, u2, f1, f2, rfl, fT, hT, q1, q2, rfl⟩ := q
    cases t with
    | n i => exact g.elim
    | t l =>
      obtain ⟨t1, t2, rfl⟩ : ∃ t1 t2, l = [t1, t2] := by
        rcases l with _ | ⟨t1, _ | ⟨t2, _ | ⟨t3, l⟩⟩⟩
        · exact g.elim
        · exact g.elim
        · exact ⟨t1, t2, rfl⟩
        · exact g.elim
      obtain ⟨fr, g⟩ := g
      refine ⟨T, [u1, u2], rfl, .inl (.inl hT), rfl, u1, [u2], rfl, ?_⟩
      have s' : Sep r (f1 ++ (f2 ++ fz)) := by rw [← List.append_assoc]; exact s
      refine bind_ok t1 (fz := f2 ++ fz) h q1 s' pre g fun r' b g σV' p' hl' => ?_
      have nx : ∃ y', RS W r' u2 f2 y' ∧ bindW t2 y' r'.σ K := by
        cases y1 with
        | v m => exact ⟨.v m, RM.same q2 (fun _ z => by rw [b.F]; exact z) b.H, g⟩
        | al j p =>
          obtain ⟨rfl, m, v0, c, e1, e2, e3, wk⟩ := q2
          have hj : tgHas j t1 = false := by
            have fr : (!tgsHas j [t1]) = true := fr
            simp only [tgsHas, Bool.or_false, Bool.not_eq_true'] at fr
            exact fr
          obtain ⟨s2, es, _⟩ := nthW_ex (show nthW r'.σ j _ from g)
          cases s2 with
          | v m2 =>
            obtain ⟨s3, es', gg⟩ := nthW_ex (show nthW r'.σ j _ from g)
            rw [es] at es'; cases es'
            obtain ⟨c', ec, _⟩ := atW_ex gg
            have qq : RS W r' u2 [] (.al j p) := ⟨rfl, m2, v0, c', es, by rw [b.w j hj]; exact e2, ec, by rw [b.H]; exact wk⟩
            obtain ⟨sv', kk, q'⟩ := normW_ex b.er qq g
            exact ⟨sv', q', kk⟩
          | _ =>
            obtain ⟨s3, es', gg⟩ := nthW_ex (show nthW r'.σ j _ from g)
            rw [es] at es'; cases es'
            exact gg.elim
        | _ => exact g.elim
      obtain ⟨y', q2', g⟩ := nx
      rw [← b.H]
      refine ⟨u2, [], rfl, ?_⟩
      refine bind_ok t2 (fz := fz) b.er q2' b.sep p' g fun r2 b2 k2 σV2 p2 hl2 => ?_
      rw [b.H]
      refine ⟨rfl, fin r2 ⟨b2.er, b2.lw.trans b.lw, b2.H.trans b.H, b2.F.trans b.F, fun a ha => ?_, b2.sep, fun i hi => ?_⟩ k2 σV2 p2 ⟨hl2.len.trans hl'.len, fun i hi => by
        have hi : tgHas i (.t [t1, t2]) = false := hi
        simp only [tgHas, tgsHas, Bool.or_false, Bool.or_eq_false_iff] at hi
        rw [hl2.oth i hi.2, hl'.oth i hi.1]⟩⟩
      · rcases List.mem_append.mp (b2.sub a ha) with z | z
        · rcases List.mem_append.mp (b.sub a z) with z | z
          · exact List.mem_append_left _ z
          · exact List.mem_append_right _ (List.mem_append_left _ z)
        · exact List.mem_append_right _ (List.mem_append_right _ z)
      · have hi : tgHas i (.t [t1, t2]) = false := hi
        simp only [tgHas, tgsHas, Bool.or_false, Bool.or_eq_false_iff] at hi
        rw [b2.w i hi.2, b.w i hi.1]
theorem Stp.wideZ {F F' : Addr → Prop} {H H' : Hp} {A A' fz : List Addr} (s : Stp F H A F' H' A') : Stp F H (A ++ fz) F' H' (A' ++ fz) := by
  refine ⟨s.f, fun a o e n => s.k a o e fun z => n (List.mem_append_left _ z), fun a ha => ?_, fun a ha => (s.g a ha).imp id (Or.imp (List.mem_append_left _) id)⟩
  rcases List.mem_append.mp ha with z | z
  · exact (s.a a z).imp (List.mem_append_left _) id
  · exact .inl (List.mem_append_right _ z)
/-- what waits, through a later moment -/
theorem Lat.sepZ {fz : List Addr} (l : Lat W E fx r r1) (er : ER W E r) (s : Sep r fz) (th : ∀ a ∈ fz, r.H a ≠ none) : Lz W E r r1 fz := by
  have ap := s.apart
  refine ⟨l.er, l.st.f, fun a o f e => l.st.k a o e (er.nfA a f), fun a ha o e => l.st.k a o e (ap a ha), ⟨?_, l.st.notF th ap s.nf⟩⟩
  exact List.nodup_append.mpr ⟨l.er.nd, s.ndF, fun a ha b hb z => by subst z; exact l.st.apart th ap a hb ha⟩
/-- a step of what waits: the item's part goes into slots -/
theorem LatF.grow {fz f1 f2 : List Addr} {F' : Addr → Prop} {H' : Hp} (l : LatF W E fx r0 r fz) (th : ∀ a ∈ fz, r.H a ≠ none) (g : Gw r F' H') (p : fz.Perm (f1 ++ f2)) : LatF W E fx r0 (r.at F' H') (f1 ++ f2) := by
  have er' := l.er.grow g.f g.k g.g g.d
  refine ⟨er', l.lw, l.ws, ?_, ⟨?_, fun a ha z => ?_⟩⟩
  · refine l.st.trans ⟨g.f, fun a o e _ => g.k a o e, fun a ha => .inl ?_, fun a ha => (g.g a ha).imp id .inr⟩
    rcases List.mem_append.mp ha with z | z
    · exact List.mem_append_left _ z
    · exact List.mem_append_right _ (p.mem_iff.mpr z)
  · exact (List.Perm.nodup_iff (List.Perm.append_left _ p)).mp l.sep.nd
  · have hz := p.mem_iff.mpr ha
    rcases g.g a z with y | y
    · exact l.sep.nf a hz y
    · exact th a hz y
theorem Bnd.latF {f1 f2 : List Addr} {hs : Nat → Bool} (b : Bnd W E r f1 f2 r1 hs) (l : LatF W E fx r0 r (f1 ++ f2)) (ht : ∀ i, hs i = true → fx i = false) : LatF W E fx r0 r1 f2 := by
  refine ⟨b.er, b.lw.trans l.lw, fun j hj => ?_, ?_, b.sep⟩
  · rw [b.w j (by cases z : hs j with | false => rfl | true => rw [ht j z] at hj; cases hj), l.ws j hj]
  · refine l.st.trans ⟨fun a z => by rw [b.F]; exact z, fun a o e _ => by rw [b.H]; exact e, fun a ha => .inl ?_, fun a z => .inl (by rw [← b.F]; exact z)⟩
    rcases List.mem_append.mp ha with z | z
    · rw [← List.append_assoc]
      exact List.mem_append_left _ (b.sub a z)
    · exact List.mem_append_right _ (List.mem_append_right _ z)
theorem LatF.then {fz : List Addr} (l : LatF W E fx r0 r fz) (th : ∀ a ∈ fz, r.H a ≠ none) (l2 : Lat W E fx r r1) : LatF W E fx r0 r1 fz := by
  have z := l2.sepZ l.er l.sep th
  exact ⟨l2.er, l2.lw.trans l.lw, fun j h => (l2.ws j h).trans (l.ws j h), l.st.trans l2.st.wideZ, z.s⟩
theorem LatF.thenF {fz fp : List Addr} (l : LatF W E fx r0 r fz) (l2 : LatF W E fx r r1 fp) : LatF W E fx r0 r1 fp := (l.lat).transF l2
/-- what a loop walks -/
def SrcJ (W : Wd) (E : List (Addr × Nat × Addr)) (s : Src) (r : Wr) (J : L2.It) (fz : List Addr) : Prop := match s with
  | .dat l => Wtg W E J l 0 r fz ∧ (∀ a ∈ fz, r.H a ≠ none) ∧ l.length ≤ sizeLine
  | .own sv n tp en => fz = [] ∧ n ≤ sizeLine ∧ ∃ a, RS W r (.ref a) [] sv ∧ isAl sv ∧ ((tp = false ∧ en = false ∧ J = Itl W.K a) ∨ (tp = true ∧ en = false ∧ J = Itt W.K a) ∨ (tp = false ∧ en = true ∧ J = Ite W.K a))
def ForR (g : TG) (tb : TS) (J : L2.It) (D : Ends) (σV : L2.St) (H : Hp) : Prop := ∃ V : Nat → Nat → L2.St → Hp → Prop, (∃ m, V 0 m σV H) ∧ ∀ i m σ H, V i m σ H →
  (J.stop i H ∧ D.nx σ H) ∨ (J.go i H ∧ ∃ N : L2.St → Hp → Prop, (∀ σ' H', N σ' H' → ∃ m', m' < m ∧ V (i + 1) m' σ' H') ∧ ∀ x H', J.yld i H x H' → g x σ H' fun σ2 H2 => tb { D with nx := N, ct := N, bk := D.nx } σ2 H2)
theorem for_dat {t : Tg} {b : Ss} {l : List BV} {fz : List Addr} (ht : ∀ i, tgHas i t = true → fx i = false) (hn : σV.length = n) (lf : LatF W E fx r0 r fz) (pre : Pre σV r.w) (wt : Wtg W E J l 0 r fz) (th : ∀ a ∈ fz, r.H a ≠ none) (ev : forD t (exSs Γ dp b) l r.σ Dp) (en : EndsR W E Wx fx r0 n Dp D) :
    ForR (gOf W.K t) (tSs Γ dp W E Wx fx b) J D σV r.H := by
  refine ⟨fun i m σ H => ∃ (r' : Wr) (l' : List BV) (fz' : List Addr), m = l'.length ∧ r'.H = H ∧ LatF W E fx r0 r' fz' ∧ Pre σ r'.w ∧ σ.length = n ∧ Wtg W E J l' i r' fz' ∧ (∀ a ∈ fz', r'.H a ≠ none) ∧ forD t (exSs Γ dp b) l' r'.σ Dp, ⟨l.length, r, l, fz, rfl, rfl, lf, pre, hn, wt, th, ev⟩, ?_⟩
  rintro i m σ H ⟨r', l', fz', rfl, rfl, lf, pre, hn, wt, th, ev⟩
  have hz : Lz W E r' r' fz' := ⟨lf.er, fun _ z => z, fun _ _ _ z => z, fun _ _ _ z => z, lf.sep⟩
  cases l' with
  | nil => exact .inl ⟨wt r' hz, en.nx _ ev r' rfl lf.lat σ pre hn⟩
  | cons b0 l' =>
    obtain ⟨go, step⟩ := wt r' hz
    refine .inr ⟨go, fun σ' H' => ∃ (r1 : Wr) (fz1 : List Addr), r1.H = H' ∧ LatF W E fx r0 r1 fz1 ∧ Pre σ' r1.w ∧ σ'.length = n ∧ Wtg W E J l' (i + 1) r1 fz1 ∧ (∀ a ∈ fz1, r1.H a ≠ none) ∧ forD t (exSs Γ dp b) l' r1.σ Dp, fun σ' H' ⟨r1, fz1, e1, lf1, p1, n1, w1, t1, ev1⟩ => ⟨l'.length, by simp, r1, l', fz1, rfl, e1, lf1, p1, n1, w1, t1, ev1⟩, fun x H' y => ?_⟩
    obtain ⟨F', f1, f2, g, p, q, wt'⟩ := step x H' y
    have lf2 := lf.grow th g p
    have th2 : ∀ a ∈ f1 ++ f2, (r'.at F' H').H a ≠ none := fun a ha => by
      cases e : r'.H a with
      | none => exact absurd e (th a (p.mem_iff.mpr ha))
      | some o => show H' a ≠ none; rw [g.k a o e]; simp
    refine bindB_ok (r := r'.at F' H') lf2.er q lf2.sep pre ev fun r3 bd k σV' p' hl' => ?_
    have lf3 := bd.latF lf2 ht
    have th3 : ∀ a ∈ f2, r3.H a ≠ none := fun a ha => by rw [bd.H]; exact th2 a (List.mem_append_right _ ha)
    have z3 : Lz W E (r'.at F' H') r3 f2 := ⟨bd.er, fun a z => by rw [bd.F]; exact z, fun a o _ e => by rw [bd.H]; exact e, fun a _ o e => by rw [bd.H]; exact e, bd.sep⟩
    refine ⟨r3, bd.H, bd.er, p', _, k, ?_⟩
    rw [hl'.len, hn]
    have again : ∀ σ', forD t (exSs Γ dp b) l' σ' Dp → ∀ r4 : Wr, r4.σ = σ' → Lat W E fx r3 r4 → ∀ σV4 : L2.St, Pre σV4 r4.w → σV4.length = n → ∃ (r1 : Wr) (fz1 : List Addr), r1.H = r4.H ∧ LatF W E fx r0 r1 fz1 ∧ Pre σV4 r1.w ∧ σV4.length = n ∧ Wtg W E J l' (i + 1) r1 fz1 ∧ (∀ a ∈ fz1, r1.H a ≠ none) ∧ forD t (exSs Γ dp b) l' r1.σ Dp := fun σ' k4 r4 e4 l4 σV4 p4 n4 => by
      subst e4
      have z4 := l4.sepZ bd.er bd.sep th3
      refine ⟨r4, f2, rfl, lf3.then th3 l4, p4, n4, wt'.later (z3.trans z4), fun a ha => ?_, k4⟩
      cases e : r3.H a with
      | none => exact absurd e (th3 a ha)
      | some o => rw [z4.z a ha o e]; simp
    have l03 := lf3.lat
    exact ⟨again, fun sv σ' h r4 v fp e l4 => en.rt sv σ' h r4 v fp e (l03.transF l4), fun σ' h r4 e l4 => en.nx σ' h r4 e (l03.trans l4), again, fun c m σ' h r4 fp d pv e l4 => en.ex c m σ' h r4 fp d pv e (l03.transF l4)⟩
/-! #### an own thing walked -/
/-- the moment with the walked thing's alias behind it -/
abbrev Wr.and (r : Wr) (sv : SV) (v : V) : Wr := ⟨r.F, r.H, r.σ ++ [some sv], r.w ++ [some v], r.fps ++ [[]]⟩
theorem and_A {sv : SV} {v : V} : (r.and sv v).A = r.A := by simp [Wr.A]
/-- .. taken away again -/
theorem lat_pop {sv : SV} {v : V} {r' : Wr} {fp : List Addr} (er : ER W E r) (hn : n ≤ r.w.length) (l : LatF W E fx (r.and sv v) r' fp) {s : Option SV} {σ3 : QL.Env} (e : r'.σ = σ3 ++ [s]) (hs : s = none ∨ ∃ j p, s = some (.al j p)) :
    ∃ r3 : Wr, r3.F = r'.F ∧ r3.H = r'.H ∧ r3.σ = σ3 ∧ LatF W E fx r r3 fp ∧ (∀ σV : L2.St, Pre σV r'.w → σV.length = n → Pre σV r3.w) ∧ (∀ x v2 fp2, RS W r' v2 fp2 x → RS W r3 v2 fp2 x) ∧ ∀ j, j < r.w.length → r3.w[j]? = r'.w[j]? := by
  obtain ⟨F', H', σ4, w4, fps4⟩ := r'
  have e : σ4 = σ3 ++ [s] := e
  subst e
  have l1 : w4.length = (r.w ++ [some v]).length := l.lw
  have lw4 : w4.length = (σ3 ++ [s]).length := l.er.lw
  have hl3 : σ3.length = r.w.length := by simp at l1 lw4; omega
  have ew : ∃ w3 y, w4 = w3 ++ [y] := by
    rcases List.eq_nil_or_concat w4 with z | ⟨w3, y, z⟩
    · rw [z] at l1; simp at l1
    · exact ⟨w3, y, by simpa using z⟩
  obtain ⟨w3, y, rfl⟩ := ew
  have lw3 : w3.length = r.w.length := by simp at l1; omega
  obtain ⟨fps', fp', ef, er'⟩ := l.er.pop (fun m z => by rcases hs with h | ⟨j, p, h⟩ <;> rw [h] at z <;> cases z)
  subst ef
  have sub : ∀ a ∈ fps'.flatten, a ∈ (fps' ++ [fp']).flatten := fun a ha => by simp only [List.flatten_append]; exact List.mem_append_left _ ha
  have st := l.st
  have hA : (r.and sv v).A = r.A := and_A
  have st : Stp r.F r.H r.A F' H' ((fps' ++ [fp']).flatten ++ fp) := by rw [← hA]; exact st
  refine ⟨⟨F', H', σ3, w3, fps'⟩, rfl, rfl, rfl, ⟨er', lw3, fun j hj => ?_, st.sub fun a ha => ?_, ⟨?_, l.sep.nf⟩⟩, fun σV p hl => ⟨by show σV.length ≤ w3.length; omega, fun i u hi eu => ?_⟩, fun x v2 fp2 q => ?_, fun j hj => by show w3[j]? = (w3 ++ [y])[j]?; rw [List.getElem?_append_left (by omega)]⟩
  · by_cases z : j < r.w.length
    · have := l.ws j hj
      have this : (w3 ++ [y])[j]? = (r.w ++ [some v])[j]? := this
      rw [List.getElem?_append_left (by omega), List.getElem?_append_left z] at this
      exact this
    · rw [List.getElem?_eq_none (by show w3.length ≤ j; omega), List.getElem?_eq_none (by omega)]
  · rcases List.mem_append.mp ha with z | z
    · exact List.mem_append_left _ (sub a z)
    · exact List.mem_append_right _ z
  · have nd : ((fps' ++ [fp']).flatten ++ fp).Nodup := l.sep.nd
    have h1 := List.nodup_append.mp nd
    have h2 : (fps'.flatten ++ ([fp'] : List (List Addr)).flatten).Nodup := by
      have := h1.1
      simp only [List.flatten_append] at this
      exact this
    exact List.nodup_append.mpr ⟨(List.nodup_append.mp h2).1, h1.2.1, fun a ha b hb => h1.2.2 a (sub a ha) b hb⟩
  · exact p.2 i u hi (by show (w3 ++ [y])[i]? = _; rw [List.getElem?_append_left (by omega)]; exact eu)
  · have inn : ∀ {j : Nat} {z : SV}, (σ3 ++ [s])[j]? = some (some z) → some z ≠ s → σ3[j]? = some (some z) ∧ j < σ3.length := fun {j z} e ne => by
      by_cases hj : j < σ3.length
      · rw [List.getElem?_append_left hj] at e; exact ⟨e, hj⟩
      · rw [List.getElem?_append_right (by omega)] at e
        have : j - σ3.length = 0 ∨ 0 < j - σ3.length := by omega
        rcases this with z | z
        · rw [z] at e; simp at e; exact absurd e.symm ne
        · rw [List.getElem?_eq_none (by simp; omega)] at e; cases e
    cases x with
    | v m => exact q
    | al j p =>
      obtain ⟨e0, m, v0, c, e1, e2, e3, wk⟩ := q
      obtain ⟨a1, hj⟩ := inn e1 (fun z => by rcases hs with h | ⟨j, p, h⟩ <;> rw [h] at z <;> cases z)
      have e2 : (w3 ++ [y])[j]? = some (some v0) := e2
      rw [List.getElem?_append_left (by omega)] at e2
      exact ⟨e0, m, v0, c, a1, e2, e3, wk⟩
    | xr i =>
      obtain ⟨e0, hw, hx⟩ := q
      have hw : (w3 ++ [y])[i]? = some (some v2) := hw
      have key : ∀ z : SV, (∀ j p, z ≠ .al j p) → (σ3 ++ [s])[i]? = some (some z) → σ3[i]? = some (some z) ∧ w3[i]? = some (some v2) := fun z nz e => by
        obtain ⟨a1, hj⟩ := inn e (fun q => by
          rcases hs with h | ⟨j, p, h⟩
          · rw [h] at q; cases q
          · rw [h] at q; cases q; exact nz _ _ rfl)
        rw [List.getElem?_append_left (by omega)] at hw
        exact ⟨a1, hw⟩
      rcases hx with ⟨c, m, e⟩ | ⟨c, e⟩
      · obtain ⟨a, b⟩ := key (.exc c m) (by intro j p z; cases z) e
        exact ⟨e0, b, .inl ⟨c, m, a⟩⟩
      · obtain ⟨a, b⟩ := key (.exg c) (by intro j p z; cases z) e
        exact ⟨e0, b, .inr ⟨c, a⟩⟩
    | _ => exact q.elim
theorem popV_ex {σ : QL.Env} {K : QL.Env → Prop} (h : popV σ K) : ∃ s σ', σ = σ' ++ [s] ∧ (s = none ∨ ∃ j p, s = some (.al j p)) ∧ K σ' := by
  obtain ⟨s, σ', e, h⟩ := popW_ex h
  cases s with
  | none => exact ⟨_, σ', e, .inl rfl, h⟩
  | some s => cases s with
    | al j p => exact ⟨_, σ', e, .inr ⟨j, p, rfl⟩, h⟩
    | _ => exact h.elim
/-- ends, seen with the walked thing behind -/
theorem EndsR.un {sv : SV} {v : V} (er : ER W E r) (hn : n ≤ r.w.length) (en : EndsR W E Wx fx r n Dp D) : EndsR W E Wx fx (r.and sv v) n Dp.un D where
  nx := fun σ' h r' es l σV p hl => by
    subst es
    obtain ⟨s, σ3, e, hs, h⟩ := popV_ex h
    obtain ⟨r3, eF, eH, e3, l3, pp, _, _⟩ := lat_pop er hn (l.transF (Nx.latF (.here l.er (.nil l.er)))) e hs
    rw [← eH]
    exact en.nx σ3 h r3 e3 l3.lat σV (pp σV p hl) hl
  rt := fun x σ' h r' v fp es l q => by
    subst es
    obtain ⟨s, σ3, e, hs, h⟩ := popV_ex h
    obtain ⟨r3, eF, eH, e3, l3, pp, tr, _⟩ := lat_pop er hn l e hs
    rw [← eH]
    exact en.rt x σ3 h r3 v fp e3 l3 (tr _ _ _ q)
  bk := fun σ' h r' es l σV p hl => by
    subst es
    obtain ⟨s, σ3, e, hs, h⟩ := popV_ex h
    obtain ⟨r3, eF, eH, e3, l3, pp, _, _⟩ := lat_pop er hn (l.transF (Nx.latF (.here l.er (.nil l.er)))) e hs
    rw [← eH]
    exact en.bk σ3 h r3 e3 l3.lat σV (pp σV p hl) hl
  ct := fun σ' h r' es l σV p hl => by
    subst es
    obtain ⟨s, σ3, e, hs, h⟩ := popV_ex h
    obtain ⟨r3, eF, eH, e3, l3, pp, _, _⟩ := lat_pop er hn (l.transF (Nx.latF (.here l.er (.nil l.er)))) e hs
    rw [← eH]
    exact en.ct σ3 h r3 e3 l3.lat σV (pp σV p hl) hl
  ex := fun c m σ' h r' fp d pv es l fd hd rm C hC σV p hl => by
    subst es
    obtain ⟨s, σ3, e, hs, h⟩ := popV_ex h
    obtain ⟨r3, eF, eH, e3, l3, pp, tr, _⟩ := lat_pop er hn l e hs
    rw [← eH]
    exact en.ex c m σ3 h r3 fp d pv e3 l3 (by rw [eF]; exact fd) (by rw [eH]; exact hd) (by rw [eF, eH]; exact rm) C hC σV (pp σV p hl) hl
end
end QL
end
section
set_option linter.all false
set_option maxRecDepth 100000
set_option maxHeartbeats 1000000
/-! SE3: for loops over own things; the statement. -/
namespace QL
open PySem PySem.Spec PyProof.Rows L2

def bvOf (en : Bool) (k : Nat) (s : SV) : BV := match en with
  | true => .two (.v (.dat (.int k))) s
  | false => .one s
section
variable {Γ : Ctx} {dp : Bool} {W : Wd} {E : List (Addr × Nat × Addr)} {Wx : WX} {r r0 r1 r2 r3 r4 r5 r6 : Wr} {σV : L2.St} {H : Hp} {Q : VK} {D : Ends} {n : Nat} {fx : Nat → Bool} {Dp : Post} {J : L2.It}
theorem list_at {F : Addr → Prop} {H : Hp} {m : M} {a : Addr} {fq : List Addr} {K : Nat → Prop} (q : RM W F H m (.ref a) fq) (z : isList m = true) (g : mLenW m K) : ∃ vs, H a = some (.lst vs) ∧ K vs.length := by
  cases q with
  | dat r => cases r with
    | list f h ln r => exact ⟨_, h, by have := r.length; have g : K _ := g; rw [← this]; exact g⟩
    | _ => cases z
  | sl h ln r => exact ⟨_, h, by have := r.length; have g : K _ := g; rw [← this]; exact g⟩
  | lst h ln r => exact ⟨_, h, by have := r.length; have g : K _ := g; rw [← this]; exact g⟩
  | _ => first | cases z | exact g.elim
theorem tup_at {F : Addr → Prop} {H : Hp} {m : M} {a : Addr} {fq : List Addr} {K : Nat → Prop} (q : RM W F H m (.ref a) fq) (z : isTup m = true) (g : mLenW m K) : ∃ vs, SqT W.K H a vs ∧ K vs.length ∧ (H a = some (.tup vs) ∨ ∃ d, m = .dat d) := by
  cases q with
  | dat r => cases r with
    | tuple h ln r => exact ⟨_, h.sq, by have := r.length; have g : K _ := g; rw [← this]; exact g, .inr ⟨_, rfl⟩⟩
    | _ => cases z
  | tup f h ln r => exact ⟨_, .inl (.inl h), by have := r.length; have g : K _ := g; rw [← this]; exact g, .inl h⟩
  | _ => cases z
theorem al_step {σ : QL.Env} {j k : Nat} {q : List Nat} {m0 : M} {K : SV → Prop} (gm : getW σ (.al j q) fun m' => m' = m0) (g : childSW (.al j q) k σ K) : ∃ c, stepO k m0 = some c := by
  obtain ⟨s, e, g0⟩ := nthW_ex (show nthW σ j _ from gm)
  cases s with
  | v m =>
    obtain ⟨c, e1, rfl⟩ := atW_ex g0
    obtain ⟨s', e', g1⟩ := nthW_ex (show nthW σ j _ from g)
    rw [e] at e'; cases e'
    obtain ⟨c', e4, _⟩ := atW_ex g1
    rw [atO_app, e1] at e4
    have e5 : (stepO k c).bind (atO []) = some c' := e4
    cases z : stepO k c with
    | none => rw [z] at e5; cases e5
    | some y => exact ⟨y, rfl⟩
  | _ => exact g0.elim
/-- the walked thing in the last slot -/
theorem own_last {a : Addr} {L : Nat} {K : SV → Prop} (h : ER W E r) (hl : r.w.length = L + 1) (hw : r.w[L]? = some (some (.ref a))) (g : lastW r.σ fun sv => isAl sv ∧ K sv) : ∃ sv, RS W r (.ref a) [] sv ∧ (∃ j q, sv = .al j q) ∧ K sv := by
  obtain ⟨s, σ3, e, ia, k⟩ := lastW_ex g
  have h3 : σ3.length = L := by
    have := h.lw
    rw [e] at this
    simp at this; omega
  cases s with
  | al j q =>
    obtain ⟨v, fp, h1, h2, qs⟩ := h.sl L (.al j q) (by rw [e, ← h3]; simp)
    rw [hw] at h1; cases h1
    obtain ⟨rfl, x⟩ := id qs
    exact ⟨.al j q, qs, ⟨j, q, rfl⟩, k⟩
  | _ => exact ia.elim
def Kd (K : PySem.W.Frag) (tp : Bool) (H : Hp) (a : Addr) (vs : List V) : Prop := match tp with
  | true => SqT K H a vs
  | false => SqL K H a vs
theorem seq_at {F : Addr → Prop} {H : Hp} {tp : Bool} {m : M} {a : Addr} {fq : List Addr} {K : Nat → Prop} (q : RM W F H m (.ref a) fq) (g : match (match tp with | true => isTup m | false => isList m) with | true => mLenW m K | false => False) :
    ∃ vs, Kd W.K tp H a vs ∧ K vs.length ∧ (H a = some (.lst vs) ∨ H a = some (.tup vs) ∨ ∃ d, m = .dat d) := by
  cases tp with
  | true =>
    cases z : isTup m with
    | false => simp only [z] at g
    | true =>
      simp only [z] at g
      obtain ⟨vs, h, k, o⟩ := tup_at q z g
      exact ⟨vs, h, k, .inr o⟩
  | false =>
    cases z : isList m with
    | false => simp only [z] at g
    | true =>
      simp only [z] at g
      obtain ⟨vs, h, k⟩ := list_at q z g
      exact ⟨vs, .inl (.inl h), k, .inl h⟩
theorem own_item {a : Addr} {L N k : Nat} {tp en : Bool} {K : BV → Prop} (h : ER W E r) (hl : r.w.length = L + 1) (hw : r.w[L]? = some (some (.ref a))) (g : itemW N tp en k r.σ K) :
    ∃ s u vs, RS W r u [] s ∧ vs[k]? = some u ∧ vs.length = N ∧ Kd W.K tp r.H a vs ∧ K (bvOf en k s) := by
  obtain ⟨sv, q, ⟨j, p, rfl⟩, g⟩ := own_last h hl hw g
  obtain ⟨m, gm, g⟩ := getW_is g
  obtain ⟨m', fm, e, rm, _, _⟩ := getW_ex h q (.nil h) gm
  subst e
  obtain ⟨vs, kd, ⟨hN, g⟩, o⟩ := seq_at rm g
  obtain ⟨c, u, fq, rest, g', qc, pm, pt⟩ := childSW_ex h q (.nil h) gm g
  obtain ⟨c0, e0⟩ := al_step gm g
  have z : rest ++ fq = [] := by simpa using pm.symm
  obtain ⟨rfl, rfl⟩ := List.append_eq_nil_iff.mp z
  refine ⟨c, u, vs, qc, ?_, hN, kd, by cases en <;> exact g'⟩
  rcases pt with ⟨a', o', ea, ho, e'⟩ | ⟨⟨d, z⟩, _⟩
  · cases ea
    rcases o with o | o | ⟨d, z⟩
    · rw [o] at ho; cases ho; exact e'
    · rw [o] at ho; cases ho; exact e'
    · subst z; simp [stepO] at e0
  · subst z; simp [stepO] at e0
theorem own_end {a : Addr} {L N : Nat} {tp : Bool} {P : Prop} (h : ER W E r) (hl : r.w.length = L + 1) (hw : r.w[L]? = some (some (.ref a))) (g : endW N tp r.σ P) : ∃ vs, vs.length = N ∧ Kd W.K tp r.H a vs ∧ P := by
  obtain ⟨sv, q, ⟨j, p, rfl⟩, g⟩ := own_last h hl hw g
  obtain ⟨m, gm, g⟩ := getW_is g
  obtain ⟨m', fm, e, rm, _, _⟩ := getW_ex h q (.nil h) gm
  subst e
  obtain ⟨vs, kd, ⟨hN, g⟩, o⟩ := seq_at rm g
  exact ⟨vs, hN, kd, g⟩
/-- which iterator -/
def ItOf (K : PySem.W.Frag) (a : Addr) (tp en : Bool) (J : L2.It) : Prop := (tp = false ∧ en = false ∧ J = Itl K a) ∨ (tp = true ∧ en = false ∧ J = Itt K a) ∨ (tp = false ∧ en = true ∧ J = Ite K a)
theorem ItOf.stop {a : Addr} {tp en : Bool} {H : Hp} {vs : List V} {i : Nat} (h : ItOf W.K a tp en J) (k : Kd W.K tp H a vs) (e : vs.length ≤ i) : J.stop i H := by
  rcases h with ⟨rfl, rfl, rfl⟩ | ⟨rfl, rfl, rfl⟩ | ⟨rfl, rfl, rfl⟩ <;> exact ⟨vs, k, e⟩
theorem ItOf.go {a : Addr} {tp en : Bool} {H : Hp} {vs : List V} {i : Nat} {u : V} (h : ItOf W.K a tp en J) (k : Kd W.K tp H a vs) (e : vs[i]? = some u) : J.go i H := by
  rcases h with ⟨rfl, rfl, rfl⟩ | ⟨rfl, rfl, rfl⟩ | ⟨rfl, rfl, rfl⟩ <;> exact ⟨vs, u, k, e⟩
theorem ItOf.yld {a : Addr} {tp en : Bool} {vs : List V} {i : Nat} {u x : V} {s : SV} {H' : Hp} (er : ER W E r) (h : ItOf W.K a tp en J) (k : Kd W.K tp r.H a vs) (e : vs[i]? = some u) (q : RS W r u [] s) (y : J.yld i r.H x H') :
    ∃ F' : Addr → Prop, Gw r F' H' ∧ BR W (r.at F' H') [] x (bvOf en i s) := by
  rcases h with ⟨rfl, rfl, rfl⟩ | ⟨rfl, rfl, rfl⟩ | ⟨rfl, rfl, rfl⟩
  · obtain ⟨rfl, y⟩ := y
    have := y vs k
    rw [e] at this; cases this
    exact ⟨r.F, .refl er, q⟩
  · obtain ⟨rfl, y⟩ := y
    have := y vs k
    rw [e] at this; cases this
    exact ⟨r.F, .refl er, q⟩
  · obtain ⟨T, x, rfl, hT, rfl, y⟩ := y
    have := y vs k
    rw [e] at this; cases this
    have up : ∀ b o, r.H b = some o → upd r.H T (.tup [.int (i : Nat), u]) b = some o := fun b o e => upd_keep (ne_of_none e hT) e
    have gw : Gw r (fun b => r.F b ∨ b = T) (upd r.H T (.tup [.int (i : Nat), u])) := ⟨fun _ z => .inl z, up, fun b z => z.imp id fun y => by rw [y]; exact hT, fun b z => by
      rcases z with y | rfl
      · cases e : r.H b with
        | none => exact absurd e (er.df b y)
        | some o => rw [up b o e]; simp
      · rw [upd_same]; simp⟩
    refine ⟨_, gw, T, _, _, [], [], rfl, .inr rfl, upd_same, RM.dat .int, ?_, rfl⟩
    cases s with
    | v m => exact RM.keep gw.f (fun b o _ e => up b o e) q fun b _ o e => up b o e
    | al j p =>
      obtain ⟨_, m, v0, c, e1, e2, e3, wk⟩ := q
      obtain ⟨v1, fp1, e4, h3, rm⟩ := er.slV e1
      rw [e2] at e4; cases e4
      exact ⟨rfl, m, v0, c, e1, e2, e3, wk.keep rm e3 gw.f (fun b o _ e => up b o e) fun b _ o e => up b o e⟩
    | xr i => exact q
    | _ => exact q.elim
theorem for_own {t : Tg} {b : Ss} {sv : SV} {a : Addr} {N : Nat} {tp en : Bool} (ht : ∀ i, tgHas i t = true → fx i = false) (hfx : ∀ j, n ≤ j → fx j = true) (hn : σV.length = n) (er : ER W E r) (pre : Pre σV r.w) (q : RS W r (.ref a) [] sv) (ia : isAl sv) (hJ : ItOf W.K a tp en J)
    (ev : forO t (exSs Γ dp b) N tp en N (r.σ ++ [some sv]) Dp.un) (enD : EndsR W E Wx fx r n Dp D) : ForR (gOf W.K t) (tSs Γ dp W E Wx fx b) J D σV r.H := by
  have nx : ∀ i, sv ≠ .xr i := fun i e => by subst e; exact ia.elim
  have hnw : n ≤ r.w.length := by rw [← hn]; exact pre.1
  have era : ER W E (r.and sv (.ref a)) := er.push q (.nil er) nx
  have en' := EndsR.un (sv := sv) (v := .ref a) er hnw enD
  refine ⟨fun i m σ H => ∃ r', m + i = N ∧ r'.H = H ∧ Lat W E fx (r.and sv (.ref a)) r' ∧ Pre σ r'.w ∧ σ.length = n ∧ forO t (exSs Γ dp b) N tp en m r'.σ Dp.un, ⟨N, r.and sv (.ref a), rfl, rfl, .refl era, pre.push, hn, ev⟩, ?_⟩
  rintro i m σ H ⟨r', hm, rfl, l, pre', hn', ev⟩
  have hl : r'.w.length = r.w.length + 1 := by rw [l.lw]; simp
  have hw : r'.w[r.w.length]? = some (some (.ref a)) := by rw [l.ws _ (hfx _ hnw)]; show (r.w ++ [some (V.ref a)])[r.w.length]? = _; simp
  cases m with
  | zero =>
    obtain ⟨vs, e, kd, k⟩ := own_end l.er hl hw (show endW N tp r'.σ _ from ev)
    exact .inl ⟨hJ.stop kd (by omega), en'.nx _ k r' rfl l σ pre' hn'⟩
  | succ m =>
    have ei : N - (m + 1) = i := by omega
    have ev : itemW N tp en (N - (m + 1)) r'.σ _ := ev
    rw [ei] at ev
    obtain ⟨s, u, vs, qs, eu, hN, kd, k⟩ := own_item l.er hl hw ev
    refine .inr ⟨hJ.go kd eu, fun σ' H' => ∃ r1, r1.H = H' ∧ Lat W E fx (r.and sv (.ref a)) r1 ∧ Pre σ' r1.w ∧ σ'.length = n ∧ forO t (exSs Γ dp b) N tp en m r1.σ Dp.un, fun σ' H' ⟨r1, e1, l1, p1, n1, f1⟩ => ⟨m, by omega, r1, by omega, e1, l1, p1, n1, f1⟩, fun x H' y => ?_⟩
    obtain ⟨F', g, bq⟩ := hJ.yld l.er kd eu qs y
    have lf : LatF W E fx (r.and sv (.ref a)) r' [] := l.transF (Nx.latF (.here l.er (.nil l.er)))
    have lf2 := lf.grow (f1 := []) (f2 := []) (by simp) g (by simp)
    refine bindB_ok (r := r'.at F' H') lf2.er bq lf2.sep pre' k fun r3 bd k σV' p' hl' => ?_
    have lf3 := (bd.latF lf2 ht).lat
    refine ⟨r3, bd.H, bd.er, p', _, k, ?_⟩
    rw [hl'.len, hn']
    have again : ∀ σ', forO t (exSs Γ dp b) N tp en m σ' Dp.un → ∀ r4 : Wr, r4.σ = σ' → Lat W E fx r3 r4 → ∀ σV4 : L2.St, Pre σV4 r4.w → σV4.length = n → ∃ r1 : Wr, r1.H = r4.H ∧ Lat W E fx (r.and sv (.ref a)) r1 ∧ Pre σV4 r1.w ∧ σV4.length = n ∧ forO t (exSs Γ dp b) N tp en m r1.σ Dp.un := fun σ' k4 r4 e4 l4 σV4 p4 n4 => by
      subst e4
      exact ⟨r4, rfl, lf3.trans l4, p4, n4, k4⟩
    exact ⟨again, fun sv σ' h r4 v fp e l4 => en'.rt sv σ' h r4 v fp e (lf3.transF l4), fun σ' h r4 e l4 => en'.nx σ' h r4 e (lf3.trans l4), again, fun c m σ' h r4 fp d pv e l4 => en'.ex c m σ' h r4 fp d pv e (lf3.transF l4)⟩
/-- an iterable's reading -/
def tI (Γ : Ctx) (dp : Bool) (W : Wd) (E : List (Addr × Nat × Addr)) (Wx : WX) (it : QL.It) : TI := tG W E Wx (evI Γ dp it) (fun s r' J fz => SrcJ W E s r' J fz)
theorem i_for {t : Tg} {it : QL.It} {b : Ss} (ht : ∀ i, tgHas i t = true → fx i = false) (hfx : ∀ j, σV.length ≤ j → fx j = true) (h : tS Γ dp W E Wx fx (.for t it b) D σV H) : tFor (tI Γ dp W E Wx it) (gOf W.K t) (tSs Γ dp W E Wx fx b) D σV H := by
  obtain ⟨r, rfl, er, pre, Dp, ev, en⟩ := h
  refine ⟨r, rfl, er, pre, Dp.ex, _, ev, fun c m σ' z => en.exX c m σ' z r (.refl er) σV pre rfl, fun s σ' k r' es J fz nx j => ?_⟩
  subst es
  have pre' : Pre σV r'.w := by rw [nx.w]; exact pre
  cases s with
  | dat l => exact for_dat ht rfl nx.latF pre' j.1 j.2.1 k en
  | own sv N tp en' =>
    obtain ⟨rfl, _, a, q, ia, hJ⟩ := j
    exact for_own ht hfx rfl nx.er pre' q ia hJ (pushW_ex k) (en.later nx.lat)
end
end QL
end
section
set_option linter.all false
set_option maxRecDepth 100000
set_option maxHeartbeats 1000000
/-! SE4: what may be walked. -/
namespace QL
open PySem PySem.Spec PyProof.Rows L2

inductive All2 {α β : Type} (P : α → β → Prop) : List α → List β → Prop
  | nil : All2 P [] []
  | cons {a : α} {b : β} {as : List α} {bs : List β} (h : P a b) (t : All2 P as bs) : All2 P (a :: as) (b :: bs)
/-- by value -/
def Wk (K : PySem.W.Frag) (v : V) (H : Hp) (R : L2.It → Hp → Prop) : Prop := (∃ a, v = .ref a ∧ (∃ xs, SqL K H a xs) ∧ R (Itl K a) H) ∨ (∃ a, v = .ref a ∧ (∃ xs, SqT K H a xs) ∧ R (Itt K a) H) ∨ ∃ x, v = .str x ∧ R (Its x) H
def iAny (K : PySem.W.Frag) (te : TE) : TI := fun σ H R => te σ H fun v H1 => Wk K v H1 R
section
variable {X : Cx} {tg : Expr}
theorem pi_any {e : Expr} {te : TE} (he : PE X e te) : PI X tg e (iAny X.K te) := by
  refine ⟨fun pins s σ H R I h => ?_⟩
  refine thn (he.run pins s σ H _ I h) fun v s1 ⟨y, H1, I1, rl, q1⟩ => ?_
  rcases q1 with ⟨a, rfl, ⟨xs, hq⟩, q⟩ | ⟨a, rfl, ⟨xs, hq⟩, q⟩ | ⟨x, rfl, q⟩
  · cases rl
    obtain ⟨ws, _, pl, _⟩ := I1.list hq
    exact wpAny_pyIter_list pl.isList (pi_one (tk := s1.toks) I1 _ (turn_list a _) ⟨_, Heap.get?_push_size _ rfl, rfl, rfl⟩ q)
  · cases rl
    obtain ⟨ws, _, pl, _⟩ := I1.tuple hq
    exact wpAny_pyIter_tuple (show s1.heap.IsTuple a ws.toArray from pl) (pi_one (tk := s1.toks) I1 _ (turn_tuple a _) ⟨_, Heap.get?_push_size _ rfl, rfl, rfl⟩ q)
  · obtain ⟨t, rfl⟩ := rl
    cases hx : x.cps.all (· < 128)
    · exact wpAny_pyIter_wide hx (pi_one (tk := s1.toks) I1 _ (turn_str _ x t "str_iterator" (.inr rfl)) ⟨_, Heap.get?_push_size _ rfl, rfl, rfl⟩ q)
    · exact wpAny_pyIter_ascii hx (pi_one (tk := s1.toks) I1 _ (turn_str _ x t "str_ascii_iterator" (.inl rfl)) ⟨_, Heap.get?_push_size _ rfl, rfl, rfl⟩ q)
end
section
variable {Γ : Ctx} {dp : Bool} {W : Wd} {E : List (Addr × Nat × Addr)} {Wx : WX} {r r0 r1 r2 r3 r4 r5 r6 : Wr} {σV : L2.St} {H : Hp} {Q : VK} {D : Ends} {n : Nat} {Dp : Post} {J : L2.It} {R : L2.It → Hp → Prop}
theorem tE_mono {e : QL.E} {Q Q' : VK} (h : tE Γ dp W E Wx e σV H Q) (m : ∀ v H, Q v H → Q' v H) : tE Γ dp W E Wx e σV H Q' := by
  obtain ⟨r, eH, er, pre, X, K, ev, hX, hK⟩ := h
  exact ⟨r, eH, er, pre, X, K, ev, hX, fun sv σ' k r' es v fp n q => m _ _ (hK sv σ' k r' es v fp n q)⟩
theorem numbD_len : ∀ (k : Nat) (ds : List QL.D), (numbD k ds).length = ds.length
  | _, [] => rfl
  | k, _ :: r => congrArg (· + 1) (numbD_len (k + 1) r)
theorem numbM_len : ∀ (k : Nat) (ds : List M), (numbM k ds).length = ds.length
  | _, [] => rfl
  | k, _ :: r => congrArg (· + 1) (numbM_len (k + 1) r)
theorem walk_ok {en : Bool} {m : M} {v : V} {fp : List Addr} {K : List BV → Prop} (q : RM W r.F r.H m v fp) (g : walkW en m K) : ∃ l, K l ∧ l.length ≤ sizeLine ∧ (en = false → ∃ R : L2.It → Prop, (∀ J, R J → Wtg W E J l 0 r fp) ∧ ∀ P : L2.It → Hp → Prop, (∀ J, R J → P J r.H) → Wk W.K v r.H P) ∧
    (en = true → ∃ a xs, v = .ref a ∧ SqL W.K r.H a xs ∧ Wtg W E (Ite W.K a) l 0 r fp) := by
  unfold walkW at g
  split at g
  · cases q with
    | dat q => cases q with
      | @list a vs ds f h ln rd =>
        refine ⟨_, g, by cases en <;> simpa [walkD, numbD_len] using ln, fun e => ?_, fun e => ?_⟩
        · subst e
          exact ⟨fun J => J = Itl W.K a, fun J e => by subst e; exact wtg_dlist ⟨h, .inl f⟩ rd, fun P p => .inl ⟨a, rfl, ⟨vs, .inl (.inl h)⟩, p _ rfl⟩⟩
        · subst e
          exact ⟨a, vs, rfl, .inl (.inl h), wtg_denum ⟨h, .inl f⟩ rd⟩
  · cases q with
    | @sl a vs ds h ln rd =>
      refine ⟨_, g, by cases en <;> simpa [walkD, numbD_len] using ln, fun e => ?_, fun e => ?_⟩
      · subst e
        exact ⟨fun J => J = Itl W.K a, fun J e => by subst e; exact wtg_dlist ⟨h, .inr (by simp)⟩ rd, fun P p => .inl ⟨a, rfl, ⟨vs, .inl (.inl h)⟩, p _ rfl⟩⟩
      · subst e
        exact ⟨a, vs, rfl, .inl (.inl h), wtg_denum ⟨h, .inr (by simp)⟩ rd⟩
  · cases en with
    | true => exact g.elim
    | false =>
      cases q with
      | dat q => cases q with
        | @tuple a vs ds h ln rd => exact ⟨_, g, by simpa using ln, fun _ => ⟨fun J => J = Itt W.K a, fun J e => by subst e; exact wtg_dtup h rd, fun P p => .inr (.inl ⟨a, rfl, ⟨vs, h.sq⟩, p _ rfl⟩)⟩, fun e => nomatch e⟩
  · cases en with
    | true => exact g.elim
    | false =>
      cases q with
      | dat q => cases q with
        | str ok ln => exact ⟨_, g, by simpa [signs, Str.length] using ln, fun _ => ⟨fun J => J = Its _, fun J e => by subst e; exact wtg_str ok, fun P p => .inr (.inr ⟨_, rfl, p _ rfl⟩)⟩, fun e => nomatch e⟩
  · exact g.elim
theorem LstAt.self {a : Addr} {vs : List V} {fr : List Addr} (h : r.H a = some (.lst vs)) : LstAt r [a] a vs := ⟨h, .inr (by simp)⟩
/-- x in a loop's head -/
theorem src_any {sv : SV} {v : V} {fp : List Addr} {K : Src → QL.Env → Prop} (nx : Nx W E r0 [] r.σ r fp) (q : RS W r v fp sv) (g : srcW false sv r.σ K)
    (fin : ∀ s (r' : Wr) J fz, K s r'.σ → Nx W E r0 [] r'.σ r' fz → SrcJ W E s r' J fz → r'.H = r.H → R J r'.H) : Wk W.K v r.H R := by
  have h := nx.er
  cases sv with
  | v m =>
    have q : RM W r.F r.H m v fp := q
    have gen : walkW false m (fun l => K (.dat l) r.σ) → Wk W.K v r.H R := fun g => by
      obtain ⟨l, k, ln, a, _⟩ := walk_ok (E := E) q g
      obtain ⟨R0, w, p⟩ := a rfl
      exact p R fun J hJ => fin _ r J fp k nx ⟨w J hJ, q.there, ln⟩ rfl
    cases m with
    | lst ms =>
      cases q with
      | @lst a vs ms fr hh ln rs =>
        exact .inl ⟨a, rfl, ⟨vs, .inl (.inl hh)⟩, fin _ r _ (a :: fr) g nx ⟨wtg_list (i := 0) [a] ⟨hh, .inr (by simp)⟩ rfl rs, (RM.lst hh ln rs).there, by simpa [walkM, numbM_len] using ln⟩ rfl⟩
    | tup ms =>
      cases q with
      | @tup a vs ms _ f hh ln rs =>
        exact .inr (.inl ⟨a, rfl, ⟨vs, .inl (.inl hh)⟩, fin _ r _ fp g nx ⟨wtg_tup (i := 0) (.inl ⟨f, hh⟩) rfl rs, rs.there, by simpa [walkM] using ln⟩ rfl⟩)
    | _ => exact gen g
  | al i p =>
    obtain ⟨rfl, _⟩ := id q
    obtain ⟨m, gm, g⟩ := getW_is (show getW r.σ (.al i p) _ from g)
    obtain ⟨m', fm, e, rm, _, _⟩ := getW_ex h q (.nil h) gm
    subst e
    split at g
    · cases rm with
      | @sl a vs ds hh ln rd => exact .inl ⟨a, rfl, ⟨vs, .inl (.inl hh)⟩, fin _ r _ [] g nx ⟨rfl, ln, a, q, trivial, .inl ⟨rfl, rfl, rfl⟩⟩ rfl⟩
    · cases rm with
      | @lst a vs ds _ hh ln rd => exact .inl ⟨a, rfl, ⟨vs, .inl (.inl hh)⟩, fin _ r _ [] g nx ⟨rfl, ln, a, q, trivial, .inl ⟨rfl, rfl, rfl⟩⟩ rfl⟩
    · cases rm with
      | @tup a vs ds _ f hh ln rd => exact .inr (.inl ⟨a, rfl, ⟨vs, .inl (.inl hh)⟩, fin _ r _ [] g nx ⟨rfl, ln, a, q, trivial, .inr (.inl ⟨rfl, rfl, rfl⟩)⟩ rfl⟩)
    · obtain ⟨r', f, n2, g, rm2, _, eH⟩ := frzSW_ex h q (.nil h) g
      obtain ⟨l, k, ln, a, _⟩ := walk_ok (E := E) rm2 g
      obtain ⟨R0, w, p⟩ := a rfl
      rw [← eH]
      exact p R fun J hJ => fin _ r' J [] k (nx.trans n2) ⟨w J hJ, by simp, ln⟩ eH
  | _ => exact g.elim
theorem src_enum {sv : SV} {v : V} {fp : List Addr} {K : Src → QL.Env → Prop} (nx : Nx W E r0 [] r.σ r fp) (q : RS W r v fp sv) (g : srcW true sv r.σ K)
    (fin : ∀ s (r' : Wr) J fz, K s r'.σ → Nx W E r0 [] r'.σ r' fz → SrcJ W E s r' J fz → r'.H = r.H → R J r'.H) : ∃ a xs, v = .ref a ∧ SqL W.K r.H a xs ∧ R (Ite W.K a) r.H := by
  have h := nx.er
  cases sv with
  | v m =>
    have q : RM W r.F r.H m v fp := q
    have gen : walkW true m (fun l => K (.dat l) r.σ) → ∃ a xs, v = .ref a ∧ SqL W.K r.H a xs ∧ R (Ite W.K a) r.H := fun g => by
      obtain ⟨l, k, ln, _, a⟩ := walk_ok (E := E) q g
      obtain ⟨a, xs, ev, hs, w⟩ := a rfl
      exact ⟨a, xs, ev, hs, fin _ r _ fp k nx ⟨w, q.there, ln⟩ rfl⟩
    cases m with
    | lst ms =>
      cases q with
      | @lst a vs ms fr hh ln rs =>
        exact ⟨a, vs, rfl, .inl (.inl hh), fin _ r _ (a :: fr) g nx ⟨wtg_enum (i := 0) [a] ⟨hh, .inr (by simp)⟩ rfl rs, (RM.lst hh ln rs).there, by simpa [walkM, numbM_len] using ln⟩ rfl⟩
    | tup ms => exact (show False from g).elim
    | _ => exact gen g
  | al i p =>
    obtain ⟨rfl, _⟩ := id q
    obtain ⟨m, gm, g⟩ := getW_is (show getW r.σ (.al i p) _ from g)
    obtain ⟨m', fm, e, rm, _, _⟩ := getW_ex h q (.nil h) gm
    subst e
    split at g
    · cases rm with
      | @sl a vs ds hh ln rd => exact ⟨a, vs, rfl, .inl (.inl hh), fin _ r _ [] g nx ⟨rfl, ln, a, q, trivial, .inr (.inr ⟨rfl, rfl, rfl⟩)⟩ rfl⟩
    · cases rm with
      | @lst a vs ds _ hh ln rd => exact ⟨a, vs, rfl, .inl (.inl hh), fin _ r _ [] g nx ⟨rfl, ln, a, q, trivial, .inr (.inr ⟨rfl, rfl, rfl⟩)⟩ rfl⟩
    · exact g.elim
    · obtain ⟨r', f, n2, g, rm2, _, eH⟩ := frzSW_ex h q (.nil h) g
      obtain ⟨l, k, ln, _, a⟩ := walk_ok (E := E) rm2 g
      obtain ⟨a, xs, ev, hs, w⟩ := a rfl
      rw [← eH]
      exact ⟨a, xs, ev, hs, fin _ r' _ [] k (nx.trans n2) ⟨w, by simp, ln⟩ eH⟩
  | _ => exact g.elim
theorem i_iE {e : QL.E} (h : tI Γ dp W E Wx (.e e) σV H R) : iAny W.K (tE Γ dp W E Wx e) σV H R := by
  obtain ⟨r, rfl, er, pre, X, K, ev, hX, hK⟩ := h
  refine ⟨r, rfl, er, pre, X, _, ev, hX, fun sv σ' g r' es v fp nx q => ?_⟩
  subst es
  exact src_any nx q g fun s r2 J fz k n2 j _ => hK s _ k r2 rfl J fz n2 j
theorem i_iEnum {e : QL.E} (h : tI Γ dp W E Wx (.enum e) σV H R) : iEnum W.K (tCons (tE Γ dp W E Wx e) tNil) σV H R := by
  obtain ⟨r, rfl, er, pre, X, K, ev, hX, hK⟩ := h
  have z : tE Γ dp W E Wx e σV r.H fun v H1 => ∃ a xs, v = .ref a ∧ SqL W.K H1 a xs ∧ R (Ite W.K a) H1 := by
    refine ⟨r, rfl, er, pre, X, _, ev, hX, fun sv σ' g r' es v fp nx q => ?_⟩
    subst es
    exact src_enum nx q g fun s r2 J fz k n2 j _ => hK s _ k r2 rfl J fz n2 j
  exact tE_mono z fun v H1 ⟨a, xs, e, hs, k⟩ => ⟨a, xs, by rw [e], hs, k⟩
theorem getMs_ex : ∀ {svs : List SV} {vs : List V} {fp : List Addr} {K : List M → Prop}, ER W E r → RSs W r svs vs fp → Sep r fp → getMsW r.σ svs K → ∃ ms, K ms ∧ All2 (fun m v => ∃ fq, RM W r.F r.H m v fq) ms vs
  | [], _, _, _, _, .nil, _, g => ⟨[], g, .nil⟩
  | sv :: svs, _, _, K, h, .cons q t, s, g => by
    obtain ⟨m, fq, g, rm, _, _⟩ := getW_ex h q s.right (show getW r.σ sv _ from g)
    obtain ⟨ms, k, f⟩ := getMs_ex h t s.left g
    exact ⟨m :: ms, k, .cons ⟨fq, rm⟩ f⟩
/-- range's ends -/
def RngA (R : L2.It → Hp → Prop) (vs : List V) (H : Hp) : Prop :=
  (∃ j : Int, vs = [.int j] ∧ -(2 ^ 62) ≤ j ∧ j < 2 ^ 62 ∧ R (Itr 0 j.toNat) H) ∨
  (∃ i j : Int, vs = [.int i, .int j] ∧ (-(2 ^ 62) ≤ i ∧ i < 2 ^ 62 ∧ -(2 ^ 62) ≤ j ∧ j < 2 ^ 62) ∧ R (Itr i (j - i).toNat) H) ∨
  ∃ (i j c : Int) (n : Nat), vs = [.int i, .int j, .int c] ∧ RgC i j c n ∧ R (Itc i c n) H
theorem rm_int {F : Addr → Prop} {H : Hp} {i : Int} {v : V} (h : ∃ fq, RM W F H (.dat (.int i)) v fq) : v = .int i := by
  obtain ⟨fq, q⟩ := h
  cases q with
  | dat q => cases q; rfl
theorem rangeD_len : ∀ (lo : Int) (n : Nat), (rangeD lo n).length = n
  | _, 0 => rfl
  | lo, n + 1 => congrArg (· + 1) (rangeD_len (lo + 1) n)
theorem rangeB_len : ∀ (lo : Int) (n : Nat), (rangeB lo n).length = n
  | _, 0 => rfl
  | lo, n + 1 => congrArg (· + 1) (rangeB_len (lo - 1) n)
theorem rng_ok {ms : List M} {vs : List V} {K : List BV → Prop} (f : All2 (fun m v => ∃ fq, RM W r.F r.H m v fq) ms vs) (g : rangeW ms K) (fin : ∀ l J, K l → Wtg W E J l 0 r [] → l.length ≤ sizeLine → R J r.H) : RngA R vs r.H := by
  unfold rangeW at g
  split at g
  · rename_i n
    cases f with
    | cons q t =>
      cases t
      cases rm_int q
      obtain ⟨⟨⟨a, b⟩, c⟩, g⟩ := g
      refine .inl ⟨n, rfl, a, b, fin _ _ g ?_ (by rw [rangeD_len, ← sizeL]; omega)⟩
      have := wtg_range (W := W) (E := E) (r := r) (n := n.toNat) (i := 0) (lo := 0) (N := n.toNat) (by omega)
      simpa using this
  · rename_i a b
    cases f with
    | cons q t =>
      cases t with
      | cons q2 t =>
        cases t
        cases rm_int q
        cases rm_int q2
        obtain ⟨⟨⟨a1, a2⟩, ⟨b1, b2⟩, c⟩, g⟩ := g
        refine .inr (.inl ⟨a, b, rfl, ⟨a1, a2, b1, b2⟩, fin _ _ g ?_ (by rw [rangeD_len, ← sizeL]; omega)⟩)
        have := wtg_range (W := W) (E := E) (r := r) (n := (b - a).toNat) (i := 0) (lo := a) (N := (b - a).toNat) (by omega)
        simpa using this
  · rename_i a b c
    cases f with
    | cons q t =>
      cases t with
      | cons q2 t =>
        cases t with
        | cons q3 t =>
          cases t
          cases rm_int q
          cases rm_int q2
          cases rm_int q3
          obtain ⟨⟨⟨a1, a2⟩, ⟨b1, b2⟩, rfl, c⟩, g⟩ := g
          refine .inr (.inr ⟨a, b, _, _, rfl, .neg a1 a2 b1 b2, fin _ _ g ?_ (by rw [rangeB_len, ← sizeL]; omega)⟩)
          have := wtg_rangeB (W := W) (E := E) (r := r) (n := (a - b).toNat) (i := 0) (lo := a) (N := (a - b).toNat) (by omega)
          simpa using this
  · exact g.elim
theorem i_iRange {es : Es} (h : tI Γ dp W E Wx (.range es) σV H R) : tA Γ dp W E Wx es σV H (RngA R) := by
  obtain ⟨r, rfl, er, pre, X, K, ev, hX, hK⟩ := h
  refine ⟨r, rfl, er, pre, X, _, ev, hX, fun svs σ' g r' es' vs fp nx q => ?_⟩
  subst es'
  obtain ⟨ms, g, f⟩ := getMs_ex nx.er q nx.sep g
  exact rng_ok f g fun l J k w ln => hK _ _ k r' rfl J [] nx.none ⟨w, by simp, ln⟩
theorem i_iR1 {s : Bool} {e : QL.E} (h : tI Γ dp W E Wx (.range (.cons s e .nil)) σV H R) : iRng1 (tCons (tE Γ dp W E Wx e) tNil) σV H R := by
  refine tE_mono (i_acons (i_iRange h)) fun v H1 h => ?_
  rcases i_anil h with h | ⟨i, j, z, _⟩ | ⟨i, j, c, n, z, _⟩
  · exact h
  · cases z
  · cases z
theorem i_iR2 {s t : Bool} {e e' : QL.E} (h : tI Γ dp W E Wx (.range (.cons s e (.cons t e' .nil))) σV H R) : iRng2 (tCons (tE Γ dp W E Wx e) (tCons (tE Γ dp W E Wx e') tNil)) σV H R := by
  refine tE_mono (i_acons (i_iRange h)) fun v H1 h => tE_mono (i_acons h) fun v2 H2 h => ?_
  rcases i_anil h with ⟨i, z, _⟩ | h | ⟨i, j, c, n, z, _⟩
  · cases z
  · exact h
  · cases z
theorem i_iR3 {s t u : Bool} {e e' e2 : QL.E} (h : tI Γ dp W E Wx (.range (.cons s e (.cons t e' (.cons u e2 .nil)))) σV H R) : iRng3 (tCons (tE Γ dp W E Wx e) (tCons (tE Γ dp W E Wx e') (tCons (tE Γ dp W E Wx e2) tNil))) σV H R := by
  show tE Γ dp W E Wx e σV H fun v H1 => tE Γ dp W E Wx e' σV H1 fun v2 H2 => tE Γ dp W E Wx e2 σV H2 fun v3 H3 => ∃ (i j c : Int) (n : Nat), [v, v2, v3] = [.int i, .int j, .int c] ∧ RgC i j c n ∧ R (Itc i c n) H3
  refine tE_mono (i_acons (i_iRange h)) fun v H1 h => tE_mono (i_acons h) fun v2 H2 h => tE_mono (i_acons h) fun v3 H3 h => ?_
  rcases i_anil h with ⟨i, z, _⟩ | ⟨i, j, z, _⟩ | h
  · cases z
  · cases z
  · exact h
end
end QL
end
section
set_option linter.all false
set_option maxRecDepth 100000
set_option maxHeartbeats 1000000
/-! SE5: list comprehensions. -/
namespace QL
open PySem PySem.Spec PyProof.Rows L2

theorem wipe_off {σ : L2.St} {i : Nat} : ∀ {vs : List Nat}, i ∉ vs → (wipe σ vs)[i]? = σ[i]?
  | [], _ => rfl
  | v :: vs, h => by
    have h1 : v ≠ i := fun e => h (by simp [e])
    unfold wipe
    rw [List.getElem?_set_ne h1]
    exact wipe_off fun z => h (List.mem_cons_of_mem _ z)
theorem wipe_in {σ : L2.St} {i : Nat} (hi : i < σ.length) : ∀ {vs : List Nat}, i ∈ vs → (wipe σ vs)[i]? = some none
  | v :: vs, h => by
    unfold wipe
    by_cases e : v = i
    · subst e; rw [List.getElem?_set_self (by rw [wipe_length]; exact hi)]
    · rw [List.getElem?_set_ne e]
      exact wipe_in hi ((List.mem_cons.mp h).resolve_left fun z => e z.symm)
theorem wipe_eq {σ σ2 : L2.St} {vs : List Nat} (hl : σ2.length = σ.length) (h : ∀ i, i ∉ vs → σ2[i]? = σ[i]?) : wipe σ2 vs = wipe σ vs := by
  refine List.ext_getElem? fun i => ?_
  by_cases hv : i ∈ vs
  · by_cases hi : i < σ.length
    · rw [wipe_in (by omega) hv, wipe_in hi hv]
    · rw [List.getElem?_eq_none (by rw [wipe_length]; omega), List.getElem?_eq_none (by rw [wipe_length]; omega)]
  · rw [wipe_off hv, wipe_off hv, h i hv]
section
variable {Γ : Ctx} {dp : Bool} {W : Wd} {E : List (Addr × Nat × Addr)} {Wx : WX} {r r0 r1 r2 r3 r4 r5 r6 : Wr} {σV : L2.St} {H : Hp} {Q : VK} {n : Nat} {fx : Nat → Bool} {J : L2.It}
/-- behind names wiped -/
structure Wip (W : Wd) (E : List (Addr × Nat × Addr)) (r r' : Wr) : Prop where
  er : ER W E r'
  F : r'.F = r.F
  H : r'.H = r.H
  sub : ∀ a ∈ r'.A, a ∈ r.A
  lw : r'.w.length = r.w.length
theorem Wip.trans (a : Wip W E r r1) (b : Wip W E r1 r2) : Wip W E r r2 := ⟨b.er, b.F.trans a.F, b.H.trans a.H, fun x h => a.sub x (b.sub x h), b.lw.trans a.lw⟩
theorem Nw.wip {w' : List (Option V)} (b : Nw W E r [] w' r1) (eH : r1.H = r.H) (eF : r1.F = r.F) (hl : w'.length = r.w.length) : Wip W E r r1 := by
  refine ⟨b.er, eF, eH, fun a ha => ?_, by rw [b.w, hl]⟩
  rcases b.st.a a ha with z | z
  · simpa using z
  · exact absurd (by rw [eH]; exact z) (b.er.da a ha)
theorem wipe_ex : ∀ {own : List Nat} {r : Wr} {K : QL.Env → Prop}, ER W E r → wipeW own r.σ K → ∃ r', K r'.σ ∧ Wip W E r r' ∧ (∀ j ∈ own, r'.w[j]? = some none) ∧ ∀ j, j ∉ own → r'.w[j]? = r.w[j]?
  | [], r, K, h, g => ⟨r, g, ⟨h, rfl, rfl, fun _ z => z, rfl⟩, by simp, fun _ _ => rfl⟩
  | i :: own, r, K, h, g => by
    obtain ⟨hi, r1, nw, g, eH, eF⟩ := clearW_ex h none (show mapW (clr i) r.σ _ from g)
    obtain ⟨r2, k, wp, h1, h2⟩ := wipe_ex nw.er g
    refine ⟨r2, k, (nw.wip eH eF (by rw [List.length_set])).trans wp, fun j hj => ?_, fun j hj => ?_⟩
    · by_cases z : j ∈ own
      · exact h1 j z
      · have e : j = i := (List.mem_cons.mp hj).resolve_right z
        subst e
        rw [h2 j z, nw.w, List.getElem?_set_self (by rw [h.lw]; exact hi)]
    · have e : i ≠ j := fun e => hj (by simp [e])
      rw [h2 j fun z => hj (List.mem_cons_of_mem _ z), nw.w, List.getElem?_set_ne e]
/-- what stays of shared things -/
structure Kp (r r' : Wr) : Prop where
  f : ∀ a, r.F a → r'.F a
  k : ∀ a o, r.F a → r.H a = some o → r'.H a = some o
theorem restore_ex : ∀ {own : List Nat} {r2 : Wr} {K : QL.Env → Prop}, ER W E r → ER W E r2 → Kp r r2 → r2.w.length = r.w.length → restoreW r.σ own r2.σ K →
    ∃ r3, K r3.σ ∧ Wip W E r2 r3 ∧ (∀ j ∈ own, r3.w[j]? = r.w[j]?) ∧ ∀ j, j ∉ own → r3.w[j]? = r2.w[j]?
  | [], r2, K, h0, h, kp, hl, g => ⟨r2, g, ⟨h, rfl, rfl, fun _ z => z, rfl⟩, by simp, fun _ _ => rfl⟩
  | i :: own, r2, K, h0, h, kp, hl, g => by
    have one : ∃ r1 y, (∃ y0, r.w[i]? = some y0 ∧ y = y0) ∧ restoreW r.σ own r1.σ K ∧ Nw W E r2 [] (r2.w.set i y) r1 ∧ r1.H = r2.H ∧ r1.F = r2.F ∧ i < r2.σ.length := by
      have g : mapW (clr i) r2.σ fun σ1 => forceW (backSlot r.σ i) fun s => setW s i σ1 fun σ2 => restoreW r.σ own σ2 K := g
      have none_ : backSlot r.σ i = none → ∃ r1 y, (∃ y0, r.w[i]? = some y0 ∧ y = y0) ∧ restoreW r.σ own r1.σ K ∧ Nw W E r2 [] (r2.w.set i y) r1 ∧ r1.H = r2.H ∧ r1.F = r2.F ∧ i < r2.σ.length := fun e => by
        rw [e] at g
        have hi : i < r2.σ.length := (clearW_ex h none (show mapW (clr i) r2.σ fun σ1 => setW none i σ1 _ from g)).1
        have hi' : i < r.w.length := by rw [← hl, h.lw]; exact hi
        obtain ⟨_, r1, nw, g, eH, eF⟩ := clearW_ex h (r.w[i]) (show mapW (clr i) r2.σ fun σ1 => setW none i σ1 _ from g)
        exact ⟨r1, r.w[i], ⟨_, List.getElem?_eq_getElem hi', rfl⟩, g, nw, eH, eF, hi⟩
      cases e : r.σ[i]? with
      | none => exact none_ (by unfold backSlot; rw [e])
      | some s => cases s with
        | none => exact none_ (by unfold backSlot; rw [e])
        | some s => cases s with
          | v m =>
            cases z : m.isFz with
            | false => exact none_ (by unfold backSlot; rw [e]; simp only [z])
            | true =>
              have eb : backSlot r.σ i = some (.v m) := by unfold backSlot; rw [e]; simp only [z]
              rw [eb] at g
              obtain ⟨v, fp, hw, hf, rm⟩ := h0.slV e
              have := rm.fz_nil z
              subst this
              have rm2 : RM W r2.F r2.H m v [] := rm.keep kp.f kp.k (by simp)
              obtain ⟨hi, r1, nw, g, eH, eF⟩ := assignW_ex h (i := i) (show RS W r2 v [] (.v m) from rm2) (.nil h) (show assignW i (.v m) r2.σ _ from g)
              exact ⟨r1, some v, ⟨_, hw, rfl⟩, g, nw, eH, eF, hi⟩
          | _ => exact none_ (by unfold backSlot; rw [e])
    obtain ⟨r1, y, ⟨y0, hy, rfl⟩, g, nw, eH, eF, hi⟩ := one
    obtain ⟨r3, k, wp, h1, h2⟩ := restore_ex h0 nw.er ⟨fun a z => by rw [eF]; exact kp.f a z, fun a o f e => by rw [eH]; exact kp.k a o f e⟩ (by rw [nw.w, List.length_set, hl]) g
    refine ⟨r3, k, (nw.wip eH eF (by rw [List.length_set])).trans wp, fun j hj => ?_, fun j hj => ?_⟩
    · by_cases z : j ∈ own
      · exact h1 j z
      · have e : j = i := (List.mem_cons.mp hj).resolve_right z
        subst e
        rw [h2 j z, nw.w, List.getElem?_set_self (by rw [h.lw]; exact hi), hy]
    · have e : i ≠ j := fun e => hj (by simp [e])
      rw [h2 j fun z => hj (List.mem_cons_of_mem _ z), nw.w, List.getElem?_set_ne e]
/-- the new list so far, with its items -/
structure CW (W : Wd) (r : Wr) (D : Addr) (ms : List M) (us : List V) (fa : List Addr) : Prop where
  h : r.H D = some (.lst us)
  q : RMs W r.F r.H ms us fa
theorem Lz.sub {fz fq : List Addr} (z : Lz W E r r1 fz) (s : fq.Sublist fz) : Lz W E r r1 fq := ⟨z.er, z.f, z.k, fun a ha => z.z a (s.mem ha), z.s.sub s⟩
theorem CW.later {D : Addr} {ms : List M} {us : List V} {fa fz : List Addr} (c : CW W r D ms us fa) (z : Lz W E r r1 (D :: (fa ++ fz))) : CW W r1 D ms us fa :=
  ⟨z.z D (by simp) _ c.h, c.q.keep z.f z.k fun a ha => z.z a (by simp [ha])⟩
theorem RMs.one {F : Addr → Prop} {H : Hp} {m : M} {v : V} {fp : List Addr} (q : RM W F H m v fp) : RMs W F H [m] [v] fp := by
  have : RMs W F H [m] [v] (fp ++ []) := .cons q .nil
  rwa [List.append_nil] at this
/-- a part's tests -/
def tEO (Γ : Ctx) (dp : Bool) (W : Wd) (E : List (Addr × Nat × Addr)) (Wx : WX) : EO → TT
  | .none => tYes
  | .some e => tT Γ dp W E Wx e
def compF (Γ : Ctx) (dp : Bool) (cond : EO) (e : QL.E) : QL.Env → FK → Prop := fun σ2 F => evC Γ dp cond noX σ2 fun b σ3 => condW b (evE Γ dp e noX σ3 fun x σ4 => putW dp x σ4 fun m σ5 => F [m] σ5) (F [] σ3)
/-- what a turn has done -/
structure TurnR (W : Wd) (E : List (Addr × Nat × Addr)) (r3 r7 : Wr) (D : Addr) (ms : List M) (us : List V) (fa : List Addr) (ms' : List M) (us' : List V) (fa' fz : List Addr) : Prop where
  w : r7.w = r3.w
  er : ER W E r7
  c : CW W r7 D ms' us' fa'
  ln : us'.length ≤ us.length + 1
  st : Stp r3.F r3.H (r3.A ++ (D :: (fa ++ fz))) r7.F r7.H (r7.A ++ (D :: (fa' ++ fz)))
  sep : Sep r7 (D :: (fa' ++ fz))
  z : Lz W E r3 r7 fz
theorem turn_ok {cond : EO} {e : QL.E} {D : Addr} {ms : List M} {us : List V} {fa fz : List Addr} {F : FK} {P : Hp → Prop} {Wx' : WX} (er : ER W E r3) (pre : Pre σV r3.w) (c : CW W r3 D ms us fa) (sep : Sep r3 (D :: (fa ++ fz))) (th : ∀ a ∈ D :: (fa ++ fz), r3.H a ≠ none) (sz : us.length < sizeLine)
    (ev : compF Γ dp cond e r3.σ F) (fin : ∀ ms1 us' fa' r7, F ms1 r7.σ → TurnR W E r3 r7 D ms us fa (ms ++ ms1) us' fa' fz → P r7.H) :
    (tEO Γ dp W E Wx cond) σV r3.H fun b H3 => if b = true then tE Γ dp W E Wx' e σV H3 fun y H4 => ∃ acc, H4 D = some (.lst acc) ∧ acc.length < sizeLine ∧ P (upd H4 D (.lst (acc ++ [y]))) else P H3 := by
  have fsub : fz.Sublist (D :: (fa ++ fz)) := (List.sublist_append_right _ _).cons _
  have main : ∀ r4 : Wr, Nx W E r3 [] r4.σ r4 [] → ∀ b, condW b (evE Γ dp e noX r4.σ fun x σ4 => putW dp x σ4 fun m σ5 => F [m] σ5) (F [] r4.σ) → (if b = true then tE Γ dp W E Wx' e σV r4.H fun y H4 => ∃ acc, H4 D = some (.lst acc) ∧ acc.length < sizeLine ∧ P (upd H4 D (.lst (acc ++ [y]))) else P r4.H) := fun r4 n4 b g => by
    have z4 : Lz W E r3 r4 (D :: (fa ++ fz)) := (n4.lat (fx := fun _ => false)).sepZ er sep th
    have c4 := c.later z4
    have st4 : Stp r3.F r3.H (r3.A ++ (D :: (fa ++ fz))) r4.F r4.H (r4.A ++ (D :: (fa ++ fz))) := (n4.lat (fx := fun _ => false)).st.wideZ
    have th4 : ∀ a ∈ D :: (fa ++ fz), r4.H a ≠ none := fun a ha => by
      cases z : r3.H a with
      | none => exact absurd z (th a ha)
      | some o => rw [z4.z a ha o z]; simp
    cases b with
    | false =>
      rw [if_neg Bool.false_ne_true]
      have g : F [] r4.σ := g
      exact fin [] us fa r4 g ⟨n4.w, n4.er, by rw [List.append_nil]; exact c4, by omega, st4, z4.s, z4.sub fsub⟩
    | true =>
      rw [if_pos rfl]
      refine ⟨r4, rfl, n4.er, by rw [n4.w]; exact pre, noX, _, g, fun _ _ _ z => z.elim, fun x σ' g r5 es y fp n5 q => ?_⟩
      subst es
      obtain ⟨r6, m, fq, n6, g, rm, eH6⟩ := putW_ex n5.er q n5.sep g
      have n46 := n5.trans n6
      have wd := Nx.wide z4.s th4 n46
      have z6 : Lz W E r4 r6 (D :: (fa ++ fz)) := ⟨n46.er, n46.st.f, fun a o f e => n46.st.k a o e (by simpa using n4.er.nfA a f), fun a ha o e => n46.st.k a o e (by simpa using z4.s.apart a ha), wd.sep.right⟩
      have c6 := c4.later z6
      have nD : ¬ r6.F D := z6.s.nf D (by simp)
      have nA : D ∉ r6.A := z6.s.apart D (by simp)
      have ndw := (List.nodup_append.mp wd.sep.nd).2.1
      have ndw2 := List.nodup_append.mp ndw
      have nDq : D ∉ fq := fun z => ndw2.2.2 D z D (by simp) rfl
      have ndc := List.nodup_cons.mp ndw2.2.1
      have nDf : D ∉ fa ++ fz := ndc.1
      refine ⟨us, by rw [← eH6]; exact c6.h, sz, ?_⟩
      rw [← eH6]
      have kp : ∀ a o, a ≠ D → r6.H a = some o → upd r6.H D (.lst (us ++ [y])) a = some o := fun a o ne e => by rw [upd_ne ne]; exact e
      have sD : Stp r6.F r6.H [D] r6.F (upd r6.H D (.lst (us ++ [y]))) [D] := ⟨fun _ z => z, fun a o e ne => kp a o (by simpa using ne) e, fun a ha => .inl ha, fun a z => .inl z⟩
      have er7 := n46.er.past sD (fun a ha z => nA (by have : a = D := by simpa using z
                                                       rw [← this]; exact ha)) (fun a f z => nD (by have : a = D := by simpa using z
                                                                                                    rw [← this]; exact f)) (fun a f => by
        by_cases e : a = D
        · subst e; rw [upd_same]; simp
        · rw [upd_ne e]; exact n46.er.df a f)
      have kF : ∀ a o, r6.F a → r6.H a = some o → upd r6.H D (.lst (us ++ [y])) a = some o := fun a o f e => kp a o (fun z => nD (by rw [← z]; exact f)) e
      have thq := rm.there
      refine fin [m] (us ++ [y]) (fa ++ fq) (r6.at r6.F (upd r6.H D (.lst (us ++ [y])))) g ⟨n46.w.trans n4.w, er7, ⟨upd_same, ?_⟩, by simp, ?_, ?_, ?_⟩
      · exact RMs.append (c6.q.keep (fun _ z => z) kF fun a ha o e => kp a o (fun z => nDf (by rw [← z]; simp [ha])) e) (RMs.one (rm.keep (fun _ z => z) kF fun a ha o e => kp a o (fun z => nDq (by rw [← z]; exact ha)) e))
      · have s46 : Stp r4.F r4.H (r4.A ++ (D :: (fa ++ fz))) r6.F r6.H (r6.A ++ (fq ++ (D :: (fa ++ fz)))) := wd.st
        refine st4.trans (s46.trans ⟨fun _ z => z, fun a o e ne => kp a o (fun z => ne (by rw [z]; simp)) e, fun a ha => .inl ?_, fun a z => .inl z⟩)
        simp only [List.mem_append, List.mem_cons] at ha ⊢
        rcases ha with z | z | (z | z) | z
        · exact .inl z
        · exact .inr (.inr (.inl z))
        · exact .inr (.inr (.inr (.inl z)))
        · exact .inr (.inl z)
        · exact .inr (.inr (.inr (.inr z)))
      · have p : (fq ++ (D :: (fa ++ fz))).Perm (D :: ((fa ++ fq) ++ fz)) := by
          refine List.perm_middle.trans (List.Perm.cons D ?_)
          rw [← List.append_assoc]
          exact List.Perm.append_right _ List.perm_append_comm
        have q := wd.sep.perm p
        exact ⟨q.nd, q.nf⟩
      · refine ⟨er7, fun a z => z6.f a (z4.f a z), fun a o f e => kF a o (z6.f a (z4.f a f)) (z6.k a o (z4.f a f) (z4.k a o f e)), fun a ha o e => ?_, ?_⟩
        · have ha' : a ∈ D :: (fa ++ fz) := fsub.mem ha
          exact kp a o (fun z => nDf (by rw [← z]; exact List.mem_append_right _ ha)) (z6.z a ha' o (z4.z a ha' o e))
        · have := z6.s.sub fsub
          exact ⟨this.nd, this.nf⟩
  cases cond with
  | none => exact main r3 (.here er (.nil er)) true ev
  | some t =>
    refine ⟨r3, rfl, er, pre, noX, _, ev, fun _ _ _ z => z.elim, fun sv σ' g r4 es v fp n4 q => ?_⟩
    subst es
    obtain ⟨k, t', g⟩ := truthW_is g
    exact ⟨k, t', main r4 n4.none k g⟩
/-- a comprehension's loop, by its reading -/
def LcR (g : TG) (tt : TT) (te : TE) (vs : List Nat) (J : L2.It) (σ : L2.St) (H1 : Hp) (D : Addr) (Qd : Hp → Prop) : Prop := ∃ V : Nat → Nat → Hp → Prop, (∃ m, V 0 m (upd H1 D (.lst []))) ∧ ∀ i m H, V i m H →
  (J.stop i H ∧ Qd H) ∨ (J.go i H ∧ ∃ Nx : Hp → Prop, (∀ H', Nx H' → ∃ m', m' < m ∧ V (i + 1) m' H') ∧ ∀ x H', J.yld i H x H' → g x (wipe σ vs) H' fun σ2 H2 => wipe σ2 vs = wipe σ vs ∧ tt σ2 H2 fun b H3 =>
    if b = true then te σ2 H3 fun y H4 => ∃ acc, H4 D = some (.lst acc) ∧ acc.length < sizeLine ∧ Nx (upd H4 D (.lst (acc ++ [y]))) else Nx H3)
/-- at a turn's start -/
structure CSt (W : Wd) (E : List (Addr × Nat × Addr)) (fx : Nat → Bool) (own : List Nat) (rb r' : Wr) (D : Addr) (ms : List M) (us : List V) (fa fz : List Addr) : Prop where
  lf : LatF W E fx rb r' (D :: (fa ++ fz))
  th : ∀ a ∈ D :: (fa ++ fz), r'.H a ≠ none
  ow : ∀ j, j ∉ own → r'.w[j]? = rb.w[j]?
  c : CW W r' D ms us fa
theorem pre_wipe {own : List Nat} {w w' : List (Option V)} (p : Pre σV w) (hl : w'.length = w.length) (h1 : ∀ j ∈ own, w'[j]? = some none) (h2 : ∀ j, j ∉ own → w'[j]? = w[j]?) : Pre (wipe σV own) w' := by
  refine ⟨by rw [wipe_length, hl]; exact p.1, fun i v hi e => ?_⟩
  rw [wipe_length] at hi
  by_cases z : i ∈ own
  · rw [h1 i z] at e; cases e
  · rw [wipe_off z]
    exact p.2 i v hi (by rw [← h2 i z]; exact e)
/-- one turn, from where the block's names are wiped -/
theorem turn_step {own : List Nat} {t : Tg} {cond : EO} {e : QL.E} {D : Addr} {ms : List M} {us : List V} {fa fz f1 f2 : List Addr} {rb rw_ : Wr} {b0 : BV} {F' : Addr → Prop} {H' : Hp} {x : V} {K : FK} {P : Hp → Prop} (ho : ∀ i, tgHas i t = true → i ∈ own) (hn : ∀ i ∈ own, fx i = false)
    (hw1 : ∀ j ∈ own, rw_.w[j]? = some none) (cs : CSt W E fx own rb rw_ D ms us fa fz) (pre : Pre σV rb.w) (g : Gw rw_ F' H') (p : fz.Perm (f1 ++ f2)) (q : BR W (rw_.at F' H') f1 x b0) (sz : us.length < sizeLine)
    (ev : bindBW t b0 rw_.σ fun σ1 => compF Γ dp cond e σ1 K) (fin : ∀ ms1 us' fa' r7, K ms1 r7.σ → CSt W E fx own rb r7 D (ms ++ ms1) us' fa' f2 → us'.length ≤ us.length + 1 → Lz W E (rw_.at F' H') r7 f2 → P r7.H) :
    gOf W.K t x (wipe σV own) H' fun σ2 H2 => wipe σ2 own = wipe σV own ∧ (tEO Γ dp W E Wx cond) σ2 H2 fun b H3 => if b = true then tE Γ dp W E Wx e σ2 H3 fun y H4 => ∃ acc, H4 D = some (.lst acc) ∧ acc.length < sizeLine ∧ P (upd H4 D (.lst (acc ++ [y]))) else P H3 := by
  have pw : (D :: (fa ++ fz)).Perm (f1 ++ (D :: (fa ++ f2))) := by
    refine List.Perm.trans (List.Perm.cons D ((List.Perm.append_left fa p).trans ?_)) List.perm_middle.symm
    rw [← List.append_assoc, ← List.append_assoc]
    exact List.Perm.append_right _ List.perm_append_comm
  have lf2 := cs.lf.grow cs.th g pw
  have th2 : ∀ a ∈ D :: (fa ++ fz), H' a ≠ none := fun a ha => by
    cases z : rw_.H a with
    | none => exact absurd z (cs.th a ha)
    | some o => rw [g.k a o z]; simp
  have ew : rw_.w.length = rb.w.length := cs.lf.lw
  refine bindB_ok (r := rw_.at F' H') lf2.er q lf2.sep (pre_wipe pre ew hw1 cs.ow) ev fun r3 bd k σ2 p2 sv => ?_
  have lf3 := bd.latF lf2 fun i hi => hn i (ho i hi)
  have th3 : ∀ a ∈ D :: (fa ++ f2), r3.H a ≠ none := fun a ha => by rw [bd.H]; exact th2 a (pw.mem_iff.mpr (List.mem_append_right _ ha))
  have c3 : CW W r3 D ms us fa := ⟨by rw [bd.H]; exact g.k _ _ cs.c.h, cs.c.q.keep (fun a z => by rw [bd.F]; exact g.f a z) (fun a o _ e => by rw [bd.H]; exact g.k a o e) fun a _ o e => by rw [bd.H]; exact g.k a o e⟩
  refine ⟨wipe_eq sv.len ?_ |>.trans ?_, ?_⟩
  · intro i hi
    exact sv.oth i (by cases z : tgHas i t with | false => rfl | true => exact absurd (ho i z) hi)
  · exact wipe_eq (wipe_length ..) fun i hi => wipe_off hi
  · show (tEO Γ dp W E Wx cond) σ2 H' _
    rw [show H' = r3.H from bd.H.symm]
    refine turn_ok bd.er p2 c3 bd.sep th3 sz k fun ms1 us' fa' r7 k7 tr => ?_
    refine fin ms1 us' fa' r7 k7 ⟨⟨tr.er, by rw [tr.w, lf3.lw], fun j hj => by rw [tr.w, lf3.ws j hj], ?_, tr.sep⟩, fun a ha => ?_, fun j hj => ?_, tr.c⟩ tr.ln ?_
    · exact lf3.st.trans tr.st
    · simp only [List.mem_cons, List.mem_append] at ha
      rcases ha with z | z | z
      · rw [z, tr.c.h]; simp
      · exact tr.c.q.there a z
      · cases e : r3.H a with
        | none => exact absurd e (th3 a (by simp [z]))
        | some o => rw [tr.z.z a z o e]; simp
    · rw [tr.w, bd.w j (by cases z : tgHas j t with | false => rfl | true => exact absurd (ho j z) hj)]
      exact cs.ow j hj
    · exact ⟨tr.er, fun a z => tr.z.f a (by rw [bd.F]; exact z), fun a o f e => tr.z.k a o (by rw [bd.F]; exact f) (by rw [bd.H]; exact e), fun a ha o e => tr.z.z a ha o (by rw [bd.H]; exact e), tr.z.s⟩
/-- a turn's wiping -/
theorem wipe_st {own : List Nat} {rb r' rw_ : Wr} {D : Addr} {ms : List M} {us : List V} {fa fz : List Addr} (hn : ∀ i ∈ own, fx i = false) (cs : CSt W E fx own rb r' D ms us fa fz) (wp : Wip W E r' rw_) (h2 : ∀ j, j ∉ own → rw_.w[j]? = r'.w[j]?) : CSt W E fx own rb rw_ D ms us fa fz ∧ Lz W E r' rw_ (D :: (fa ++ fz)) := by
  have s : Sep rw_ (D :: (fa ++ fz)) := by
    refine ⟨?_, fun a ha => by rw [wp.F]; exact cs.lf.sep.nf a ha⟩
    have := List.nodup_append.mp cs.lf.sep.nd
    exact List.nodup_append.mpr ⟨wp.er.nd, this.2.1, fun a ha b hb => this.2.2 a (wp.sub a ha) b hb⟩
  have z : Lz W E r' rw_ (D :: (fa ++ fz)) := ⟨wp.er, fun a z => by rw [wp.F]; exact z, fun a o _ e => by rw [wp.H]; exact e, fun a _ o e => by rw [wp.H]; exact e, s⟩
  refine ⟨⟨⟨wp.er, by rw [wp.lw, cs.lf.lw], fun j hj => ?_, ?_, s⟩, fun a ha => by rw [wp.H]; exact cs.th a ha, fun j hj => by rw [h2 j hj, cs.ow j hj], cs.c.later z⟩, z⟩
  · rw [h2 j (fun q => by rw [hn j q] at hj; cases hj), cs.lf.ws j hj]
  · rw [wp.F, wp.H]
    refine cs.lf.st.sub fun a ha => ?_
    rcases List.mem_append.mp ha with y | y
    · exact List.mem_append_left _ (wp.sub a y)
    · exact List.mem_append_right _ y
theorem comp_dat {own : List Nat} {t : Tg} {cond : EO} {e : QL.E} {l : List BV} {fz : List Addr} {D : Addr} {Kf : FK} {P : Hp → Prop} {rb : Wr} (ho : ∀ i, tgHas i t = true → i ∈ own) (hn : ∀ i ∈ own, fx i = false) (lf : LatF W E fx rb r fz) (ew : r.w = rb.w) (pre : Pre σV rb.w) (hD : r.H D = none) (wt : Wtg W E J l 0 r fz) (th : ∀ a ∈ fz, r.H a ≠ none) (ln : l.length ≤ sizeLine)
    (ev : compD own t (compF Γ dp cond e) l r.σ Kf) (fin : ∀ ms us fa r', Kf ms r'.σ → CSt W E fx own rb r' D ms us fa [] → us.length ≤ sizeLine → Kp r r' → P r'.H) :
    LcR (gOf W.K t) (tEO Γ dp W E Wx cond) (tE Γ dp W E Wx e) own J σV r.H D P := by
  have hk : ∀ a o, r.H a = some o → upd r.H D (.lst []) a = some o := fun a o e => upd_keep (ne_of_none e hD) e
  have nx0 : Nx W E r fz r.σ (r.at r.F (upd r.H D (.lst []))) (D :: fz) := (Nx.here lf.er lf.sep).newOwn hD (.lst []) th
  have z0 : Lz W E r (r.at r.F (upd r.H D (.lst []))) fz := ⟨nx0.er, fun _ z => z, fun a o _ e => hk a o e, fun a _ o e => hk a o e, nx0.sep.sub (List.sublist_cons_self ..)⟩
  have cs0 : CSt W E fx own rb (r.at r.F (upd r.H D (.lst []))) D [] [] [] fz := by
    refine ⟨⟨nx0.er, lf.lw, lf.ws, lf.st.trans ?_, nx0.sep⟩, fun a ha => ?_, fun j _ => by show r.w[j]? = _; rw [ew], ⟨upd_same, .nil⟩⟩
    · exact nx0.st
    · rcases List.mem_cons.mp ha with y | y
      · rw [y]; show upd r.H D (.lst []) D ≠ none; rw [upd_same]; simp
      · cases e : r.H a with
        | none => exact absurd e (th a y)
        | some o => show upd r.H D (.lst []) a ≠ none; rw [hk a o e]; simp
  refine ⟨fun i m H => ∃ (r' : Wr) (l' : List BV) (fz' : List Addr) (ms : List M) (us : List V) (fa : List Addr) (K1 : FK), m = l'.length ∧ r'.H = H ∧ CSt W E fx own rb r' D ms us fa fz' ∧ Kp r r' ∧ Wtg W E J l' i r' fz' ∧ us.length + l'.length ≤ sizeLine ∧ compD own t (compF Γ dp cond e) l' r'.σ K1 ∧ ∀ ms2 σ3, K1 ms2 σ3 → Kf (ms ++ ms2) σ3,
    ⟨l.length, _, l, fz, [], [], [], Kf, rfl, rfl, cs0, ⟨fun _ z => z, fun a o _ e => hk a o e⟩, wt.later z0, by simpa using ln, ev, fun ms2 σ3 k => k⟩, ?_⟩
  rintro i m H ⟨r', l', fz', ms, us, fa, K1, rfl, rfl, cs, kp, wt, sz, ev, hK⟩
  have hfz : fz'.Sublist (D :: (fa ++ fz')) := (List.sublist_append_right _ _).cons _
  have hz : Lz W E r' r' fz' := ⟨cs.lf.er, fun _ z => z, fun _ _ _ z => z, fun _ _ _ z => z, cs.lf.sep.sub hfz⟩
  cases l' with
  | nil =>
    refine .inl ⟨wt r' hz, ?_⟩
    have ev : K1 [] r'.σ := ev
    have := hK _ _ ev
    rw [List.append_nil] at this
    have sl : (D :: (fa ++ [])).Sublist (D :: (fa ++ fz')) := List.Sublist.cons_cons _ (List.Sublist.append_left (List.nil_sublist _) _)
    refine fin ms us fa r' this ⟨⟨cs.lf.er, cs.lf.lw, cs.lf.ws, cs.lf.st.sub fun a ha => ?_, cs.lf.sep.sub sl⟩, fun a ha => cs.th a (sl.mem ha), cs.ow, cs.c⟩ (by simpa using sz) kp
    rcases List.mem_append.mp ha with y | y
    · exact List.mem_append_left _ y
    · exact List.mem_append_right _ (sl.mem y)
  | cons b0 l' =>
    obtain ⟨rw_, ev, wp, h1, h2⟩ := wipe_ex cs.lf.er (show wipeW own r'.σ _ from ev)
    obtain ⟨csw, zw⟩ := wipe_st hn cs wp h2
    obtain ⟨go, step⟩ := wt rw_ (zw.sub hfz)
    rw [wp.H] at go step
    refine .inr ⟨go, fun H' => ∃ (r' : Wr) (fz' : List Addr) (ms : List M) (us : List V) (fa : List Addr) (K1 : FK), r'.H = H' ∧ CSt W E fx own rb r' D ms us fa fz' ∧ Kp r r' ∧ Wtg W E J l' (i + 1) r' fz' ∧ us.length + l'.length ≤ sizeLine ∧ compD own t (compF Γ dp cond e) l' r'.σ K1 ∧ ∀ ms2 σ3, K1 ms2 σ3 → Kf (ms ++ ms2) σ3,
      fun H' ⟨r1, fz1, ms1, us1, fa1, K2, a1, a2, a3, a4, a5, a6, a7⟩ => ⟨l'.length, by simp, r1, l', fz1, ms1, us1, fa1, K2, rfl, a1, a2, a3, a4, a5, a6, a7⟩, fun x H' y => ?_⟩
    obtain ⟨F', f1, f2, g, p, q, wt'⟩ := step x H' y
    refine turn_step ho hn h1 csw pre g p q (by have : us.length + (l'.length + 1) ≤ sizeLine := sz; omega) ev fun ms1 us' fa' r7 k7 cs7 ln7 z7 => ?_
    refine ⟨r7, f2, ms ++ ms1, us', fa', _, rfl, cs7, ⟨fun a z => z7.f a (g.f a (by rw [wp.F]; exact kp.f a z)), fun a o f e => z7.k a o (g.f a (by rw [wp.F]; exact kp.f a f)) (g.k a o (by rw [wp.H]; exact kp.k a o f e))⟩, wt'.later z7, by have : us.length + (l'.length + 1) ≤ sizeLine := sz; omega, k7, fun ms2 σ3 k => ?_⟩
    rw [List.append_assoc]
    exact hK _ _ k
theorem comp_own {own : List Nat} {t : Tg} {cond : EO} {e : QL.E} {sv : SV} {a D : Addr} {N : Nat} {tp en : Bool} {Kf : FK} {P : Hp → Prop} (ho : ∀ i, tgHas i t = true → i ∈ own) (hn : ∀ i ∈ own, fx i = false) (er : ER W E r) (hw : fx r.w.length = true) (pre : Pre σV r.w) (hD : r.H D = none)
    (q : RS W r (.ref a) [] sv) (ia : isAl sv) (hJ : ItOf W.K a tp en J) (ln : N ≤ sizeLine)
    (ev : compO own t (compF Γ dp cond e) N tp en N (r.σ ++ [some sv]) Kf) (fin : ∀ ms us fa r', Kf ms r'.σ → CSt W E fx own (r.and sv (.ref a)) r' D ms us fa [] → us.length ≤ sizeLine → P r'.H) :
    LcR (gOf W.K t) (tEO Γ dp W E Wx cond) (tE Γ dp W E Wx e) own J σV r.H D P := by
  have nx : ∀ i, sv ≠ .xr i := fun i e => by subst e; exact ia.elim
  have era : ER W E (r.and sv (.ref a)) := er.push q (.nil er) nx
  have hk : ∀ b o, r.H b = some o → upd r.H D (.lst []) b = some o := fun b o e => upd_keep (ne_of_none e hD) e
  have nx0 : Nx W E (r.and sv (.ref a)) [] (r.σ ++ [some sv]) ((r.and sv (.ref a)).at r.F (upd r.H D (.lst []))) [D] := (Nx.here era (.nil era)).newOwn hD (.lst []) (by simp)
  have cs0 : CSt W E fx own (r.and sv (.ref a)) ((r.and sv (.ref a)).at r.F (upd r.H D (.lst []))) D [] [] [] [] := by
    refine ⟨nx0.latF, fun b hb => ?_, fun j _ => rfl, ⟨upd_same, .nil⟩⟩
    have hb : b = D := by simpa using hb
    rw [hb]; show upd r.H D (.lst []) D ≠ none; rw [upd_same]; simp
  refine ⟨fun i m H => ∃ (r' : Wr) (ms : List M) (us : List V) (fa : List Addr) (K1 : FK), m + i = N ∧ r'.H = H ∧ CSt W E fx own (r.and sv (.ref a)) r' D ms us fa [] ∧ us.length + m ≤ sizeLine ∧ compO own t (compF Γ dp cond e) N tp en m r'.σ K1 ∧ ∀ ms2 σ3, K1 ms2 σ3 → Kf (ms ++ ms2) σ3,
    ⟨N, _, [], [], [], Kf, rfl, rfl, cs0, by simpa using ln, ev, fun ms2 σ3 k => k⟩, ?_⟩
  rintro i m H ⟨r', ms, us, fa, K1, hm, rfl, cs, sz, ev, hK⟩
  have last : ∀ {x : Wr} {us fa}, CSt W E fx own (r.and sv (.ref a)) x D ms us fa [] → x.w.length = r.w.length + 1 ∧ x.w[r.w.length]? = some (some (.ref a)) := fun {x us fa} c => ⟨by rw [c.lf.lw]; simp, by rw [c.lf.ws _ hw]; show (r.w ++ [some (V.ref a)])[r.w.length]? = _; simp⟩
  cases m with
  | zero =>
    obtain ⟨vs, e1, kd, k⟩ := own_end cs.lf.er (last cs).1 (last cs).2 (show endW N tp r'.σ _ from ev)
    have := hK _ _ k
    rw [List.append_nil] at this
    exact .inl ⟨hJ.stop kd (by omega), fin ms us fa r' this cs (by simpa using sz)⟩
  | succ m =>
    obtain ⟨rw_, ev, wp, h1, h2⟩ := wipe_ex cs.lf.er (show wipeW own r'.σ _ from ev)
    obtain ⟨csw, zw⟩ := wipe_st hn cs wp h2
    have ei : N - (m + 1) = i := by omega
    rw [ei] at ev
    obtain ⟨s, u, vs, qs, eu, hN, kd, k⟩ := own_item csw.lf.er (last csw).1 (last csw).2 ev
    have go := hJ.go kd eu
    rw [wp.H] at go
    refine .inr ⟨go, fun H' => ∃ (r' : Wr) (ms : List M) (us : List V) (fa : List Addr) (K1 : FK), r'.H = H' ∧ CSt W E fx own (r.and sv (.ref a)) r' D ms us fa [] ∧ us.length + m ≤ sizeLine ∧ compO own t (compF Γ dp cond e) N tp en m r'.σ K1 ∧ ∀ ms2 σ3, K1 ms2 σ3 → Kf (ms ++ ms2) σ3,
      fun H' ⟨r1, ms1, us1, fa1, K2, a1, a2, a3, a4, a5⟩ => ⟨m, by omega, r1, ms1, us1, fa1, K2, by omega, a1, a2, a3, a4, a5⟩, fun x H' y => ?_⟩
    rw [← wp.H] at y
    obtain ⟨F', g, bq⟩ := hJ.yld csw.lf.er kd eu qs y
    refine turn_step (f1 := []) (f2 := []) ho hn h1 csw pre.push g (.refl _) bq (by omega) k fun ms1 us' fa' r7 k7 cs7 ln7 z7 => ?_
    refine ⟨r7, ms ++ ms1, us', fa', _, rfl, cs7, by omega, k7, fun ms2 σ3 k => ?_⟩
    rw [List.append_assoc]
    exact hK _ _ k
theorem mkL_rm {F : Addr → Prop} {H : Hp} {D : Addr} {ms : List M} {us : List V} {fa : List Addr} (h : H D = some (.lst us)) (q : RMs W F H ms us fa) (ln : us.length ≤ sizeLine) : ∃ fq, RM W F H (mkL ms) (.ref D) fq ∧ fq.Sublist (D :: fa) := by
  unfold mkL
  split
  · rename_i ds e
    obtain ⟨a, _, c⟩ := dats_RDs q e
    exact ⟨[D], .sl h (by rw [a.length]; exact ln) a, List.Sublist.cons_cons _ (List.nil_sublist _)⟩
  · exact ⟨D :: fa, .lst h (by rw [q.length]; exact ln) q, List.Sublist.refl _⟩
theorem LatF.nx {fp : List Addr} (l : LatF W E fx r r1 fp) (hw : r1.w = r.w) : Nx W E r [] r1.σ r1 fp := ⟨rfl, l.er, hw, by rw [List.append_nil]; exact l.st, l.sep⟩
/-- the block's end: the names are back -/
theorem comp_back {own : List Nat} {rb r' : Wr} {D : Addr} {ms : List M} {us : List V} {fa : List Addr} {K : FK} (er : ER W E r) (ew : r.w = rb.w) (lf : LatF W E fx rb r' (D :: fa)) (ow : ∀ j, j ∉ own → r'.w[j]? = rb.w[j]?) (c : CW W r' D ms us fa) (kp : Kp r r') (ln : us.length ≤ sizeLine)
    (ev : restoreW r.σ own r'.σ fun σ3 => K ms σ3) : ∃ (r3 : Wr) (fq : List Addr), K ms r3.σ ∧ r3.H = r'.H ∧ Nx W E rb [] r3.σ r3 fq ∧ RM W r3.F r3.H (mkL ms) (.ref D) fq := by
  obtain ⟨r3, k, wp, h1, h2⟩ := restore_ex er lf.er kp (by rw [lf.lw, ew]) ev
  obtain ⟨fq, rm, sl⟩ := mkL_rm c.h c.q ln
  have e3 : r3.w = rb.w := by
    refine List.ext_getElem? fun j => ?_
    by_cases z : j ∈ own
    · rw [h1 j z, ew]
    · rw [h2 j z, ow j z]
  have s3 : Sep r3 (D :: fa) := by
    have := List.nodup_append.mp lf.sep.nd
    exact ⟨List.nodup_append.mpr ⟨wp.er.nd, this.2.1, fun a ha b hb => this.2.2 a (wp.sub a ha) b hb⟩, fun a ha => by rw [wp.F]; exact lf.sep.nf a ha⟩
  have l3 : LatF W E fx rb r3 (D :: fa) := ⟨wp.er, by rw [wp.lw, lf.lw], fun j _ => by rw [e3], by
    rw [wp.F, wp.H]
    refine lf.st.sub fun a ha => ?_
    rcases List.mem_append.mp ha with y | y
    · exact List.mem_append_left _ (wp.sub a y)
    · exact List.mem_append_right _ y, s3⟩
  exact ⟨r3, fq, k, wp.H, (l3.nx e3).less sl, by rw [wp.F, wp.H]; exact rm⟩
theorem i_comp {own : List Nat} {t : Tg} {it : QL.It} {cond : EO} {e : QL.E} {Wx' : WX} (ho : ∀ i, tgHas i t = true → i ∈ own) (hn : ∀ i ∈ own, i < σV.length) (h : tE Γ dp W E Wx (.comp own t it cond e) σV H Q) : tLc (tI Γ dp W E Wx it) (gOf W.K t) (tEO Γ dp W E Wx' cond) (tE Γ dp W E Wx' e) own σV H Q := by
  obtain ⟨r, rfl, er, pre, X, K, ev, hX, hK⟩ := h
  have hn' : ∀ i ∈ own, (fun j => Nat.ble σV.length j) i = false := fun i hi => by
    cases z : Nat.ble σV.length i with
    | false => exact z
    | true => have := Nat.le_of_ble_eq_true z; have := hn i hi; omega
  refine ⟨r, rfl, er, pre, X, _, ev, hX, fun s σ' g r' es J fz nx j D hD => ?_⟩
  subst es
  cases s with
  | dat l =>
    refine comp_dat (fx := fun j => Nat.ble σV.length j) ho hn' nx.latF nx.w pre hD j.1 j.2.1 j.2.2 g fun ms us fa r2 k cs ln kp => ?_
    have cs' := cs.lf
    rw [List.append_nil] at cs'
    obtain ⟨r3, fq, k, eH, n3, rm⟩ := comp_back (K := fun ms σ6 => K (SV.v (mkL ms)) σ6) nx.er nx.w cs' cs.ow cs.c kp ln k
    rw [← eH]
    exact hK _ _ k r3 rfl _ fq n3 rm
  | own sv N tp en =>
    obtain ⟨rfl, ln, a, q, ia, hJ⟩ := j
    have g := pushW_ex (show pushW (some sv) r'.σ _ from g)
    have hw0 : σV.length ≤ r'.w.length := by rw [nx.w]; exact pre.1
    have hw : (fun j => Nat.ble σV.length j) r'.w.length = true := Nat.ble_eq_true_of_le hw0
    refine comp_own (fx := fun j => Nat.ble σV.length j) ho hn' nx.er hw (by rw [nx.w]; exact pre) hD q ia hJ ln g fun ms us fa r2 k cs ln => ?_
    obtain ⟨s, σ3, e, hs, k⟩ := popV_ex k
    have cs' := cs.lf
    rw [List.append_nil] at cs'
    obtain ⟨r3, eF, eH, e3, l3, _, tr, w3⟩ := lat_pop nx.er hw0 cs' e hs
    have kp : Kp r' r3 := ⟨l3.st.f, fun b o f e => l3.st.k b o e (nx.er.nfA b f)⟩
    have c3 : CW W r3 D ms us fa := ⟨by rw [eH]; exact cs.c.h, by rw [eF, eH]; exact cs.c.q⟩
    rw [← e3] at k
    have ow3 : ∀ j, j ∉ own → r3.w[j]? = r'.w[j]? := fun j hj => by
      by_cases z : j < r'.w.length
      · have h1 : r2.w[j]? = r'.w[j]? := by
          rw [cs.ow j hj]; show (r'.w ++ [some (V.ref a)])[j]? = _; rw [List.getElem?_append_left z]
        rw [w3 j z, h1]
      · rw [List.getElem?_eq_none (by rw [l3.lw]; omega), List.getElem?_eq_none (by omega)]
    obtain ⟨r4, fq, k, eH4, n4, rm⟩ := comp_back (K := fun ms σ6 => K (SV.v (mkL ms)) σ6) nx.er rfl l3 ow3 c3 kp ln k
    rw [← eH, ← eH4]
    exact hK _ _ k r4 rfl _ fq (nx.trans n4) rm
end
end QL
end
section
set_option linter.all false
set_option maxRecDepth 100000
set_option maxHeartbeats 1000000
/-! SE6: methods called, len, making. -/
namespace QL
open PySem PySem.Spec PyProof.Rows L2

def tUm (Γ : Ctx) (W : Wd) (Wx : WX) (k : Nat) (ta : TE) (t : TA) : TE := fun σ H Q => ta σ H fun x H1 => ∃ (c : Nat) (C a dx : Addr) (fs : List (Str × V)) (g : Nat), x = .ref a ∧ W.ins c = some C ∧ H1 a = some (.ins C dx fs) ∧ Γ.meth c k = some g ∧ (∀ y : Str, (∀ j, W.fld j ≠ y) → fs.lookup y = none) ∧
  t σ H1 fun vs H2 => spD W (Γ.call g) (x :: vs) H2 Q (WE Wx σ)
def rLenO (Γ : Ctx) (W : Wd) : V → Hp → VK → Prop := fun v H Q => ∃ (g : Nat) (c : Nat) (C a dx : Addr) (fs : List (Str × V)), v = .ref a ∧ W.ins c = some C ∧ H a = some (.ins C dx fs) ∧ Γ.meth c m_len = some g ∧ spD W (Γ.call g) [v] H (fun u H' => ∃ n : Int, u = .int n ∧ 0 ≤ n ∧ n < 4611686018427387904 ∧ Q u H') fun _ _ _ => False
def rLenA (Γ : Ctx) (W : Wd) : List V → Hp → VK → Prop := fun xs H Q => ∃ v, xs = [v] ∧ ((∃ n, LenV W.K v H n ∧ Q (.int n) H) ∨ (∃ a kvs, v = .ref a ∧ H a = some (.dK kvs) ∧ Q (.int kvs.length) H) ∨ rLenO Γ W v H Q)
def tMk (Γ : Ctx) (W : Wd) (Wx : WX) (c f : Nat) (t : TA) : TE := fun σ H Q => t σ H fun vs H1 => ∀ C, W.ins c = some C → ∀ x dx, H1 x = none → H1 dx = none → dx ≠ x →
  spD W (Γ.call f) (.ref x :: vs) (upd (upd H1 dx (.own x)) x (.ins C dx [])) (fun v H2 => v = .non ∧ Q (.ref x) H2) (WE Wx σ)
section
variable {Γ : Ctx} {dp : Bool} {W : Wd} {E : List (Addr × Nat × Addr)} {Wx : WX} {r r0 r1 r2 r3 r4 r5 r6 : Wr} {σV : L2.St} {H : Hp} {Q : VK} {D : Ends} {n : Nat} {fx : Nat → Bool} {Dp : Post}
theorem lookup_keys {fs : List (Str × V)} {y : Str} (h : y ∉ fs.map (·.1)) : fs.lookup y = none := by
  cases e : fs.lookup y with
  | none => rfl
  | some v => exact absurd (List.mem_map.mpr ⟨_, PySem.mem_of_lookup e, rfl⟩) h
theorem RFs.no {F : Addr → Prop} {H : Hp} {ks : List Nat} {ms : List M} {fs : List (Str × V)} {fp : List Addr} (q : RFs W F H ks ms fs fp) (y : Str) (h : ∀ j, W.fld j ≠ y) : fs.lookup y = none := by
  refine lookup_keys fun z => ?_
  rw [q.keys] at z
  obtain ⟨j, _, e⟩ := List.mem_map.mp z
  exact h j e
/-- an instance -/
theorem ins_at {F : Addr → Prop} {H : Hp} {z : Bool} {c : Nat} {ks : List Nat} {ms : List M} {v : V} {fp : List Addr} (q : RM W F H (.ins z c ks ms) v fp) : ∃ C a dx fs, v = .ref a ∧ W.ins c = some C ∧ H a = some (.ins C dx fs) ∧ ∀ y : Str, (∀ j, W.fld j ≠ y) → fs.lookup y = none := by
  cases q with
  | ins hc h n r => exact ⟨_, _, _, _, rfl, hc, h, r.no⟩
  | insF hc f h n z r => exact ⟨_, _, _, _, rfl, hc, h, r.no⟩
theorem i_um {a : QL.E} {k : Nat} {es : Es} (h : tE Γ dp W E Wx (.um a k es []) σV H Q) : tUm Γ W Wx k (tE Γ dp W E Wx a) (tA Γ dp W E Wx es) σV H Q := by
  obtain ⟨r, rfl, er, pre, X, K, ev, hX, hK⟩ := h
  refine ⟨r, rfl, er, pre, X, _, ev, hX, fun x σ1 g r1 e v1 fp1 n1 q1 => ?_⟩
  subst e
  obtain ⟨m, gm, g⟩ := getW_is g
  obtain ⟨m', fm, e, rm, _, _⟩ := getW_ex n1.er q1 n1.sep gm
  subst e
  cases m' with
  | ins z c ks ms =>
    simp only [insW] at g
    cases ep : Γ.meth c k with
    | none => rw [ep] at g; exact g.elim
    | some gg =>
      rw [ep] at g
      obtain ⟨C, a, dx, fs, rfl, hc, hh, no⟩ := ins_at rm
      refine ⟨c, C, a, dx, fs, gg, rfl, hc, hh, ep, no, holdG Jt_A n1 q1 hX pre g fun x' svs vs r4 fx fy n4 qx qs g => ?_⟩
      have g : umSW Γ c x' k svs X r4.σ K := g
      unfold umSW at g
      rw [ep] at g
      exact call_sp n4 (.cons qx qs) g hX fun sv σ' k => hK sv σ' k
  | _ => exact g.elim
theorem i_app {a : QL.E} {es : Es} (h : tE Γ dp W E Wx (.app a es []) σV H Q) : tUm Γ W Wx m_call (tE Γ dp W E Wx a) (tA Γ dp W E Wx es) σV H Q := i_um h
def makK (K : KS) : SV → List M → QL.Env → Prop := fun r outs σ' => match r, outs with
  | .v (.dat .none), m :: _ => K (.v m) σ'
  | _, _ => False
theorem makK_ex {K : KS} {sv : SV} {outs : List M} {σ' : QL.Env} (k : makK K sv outs σ') : ∃ m t, sv = .v (.dat .none) ∧ outs = m :: t ∧ K (.v m) σ' := by
  unfold makK at k
  split at k
  · exact ⟨_, _, rfl, rfl, k⟩
  · exact k.elim
/-- a new instance and its __init__ -/
theorem make_ok {c f : Nat} {svs : List SV} {vs : List V} {fp : List Addr} {X : XP} {K : KS} (hi : Γ.init c = some f) (n1 : Nx W E r [] r1.σ r1 fp) (qs : RSs W r1 svs vs fp) (g : makeW Γ c svs X r1.σ K) (hX : ∀ c m σ', X c m σ' → XEp W E Wx r σV c m σ')
    (hK : ∀ sv σ', K sv σ' → Fin W E r Q sv σ') : ∀ C, W.ins c = some C → ∀ x dx, r1.H x = none → r1.H dx = none → dx ≠ x →
      spD W (Γ.call f) (.ref x :: vs) (upd (upd r1.H dx (.own x)) x (.ins C dx [])) (fun v H2 => v = .non ∧ Q (.ref x) H2) (WE Wx σV) := by
  intro C hC x dx hx hdx hne
  have th : ∀ {svs vs fp}, RSs W r1 svs vs fp → ∀ a ∈ fp, r1.H a ≠ none := fun {svs vs fp} q => by
    induction q with
    | nil => simp
    | cons q t ih => exact fun a ha => (List.mem_append.mp ha).elim (ih a) (q.there a)
  have nd := (n1.newOwn hdx (.own x) (th qs)).less (List.sublist_cons_self dx fp)
  have hx2 : upd r1.H dx (.own x) x = none := by rw [upd_ne (Ne.symm hne)]; exact hx
  have up1 : ∀ a o, r1.H a = some o → upd r1.H dx (.own x) a = some o := fun a o e => upd_keep (ne_of_none e hdx) e
  have th2 : ∀ a ∈ fp, upd r1.H dx (.own x) a ≠ none := fun a ha => by
    cases e : r1.H a with
    | none => exact absurd e (th qs a ha)
    | some o => rw [up1 a o e]; simp
  have n2 := nd.newOwn hx2 (.ins C dx []) th2
  have up2 : ∀ a o, r1.H a = some o → upd (upd r1.H dx (.own x)) x (.ins C dx []) a = some o := fun a o e => upd_keep (ne_of_none (up1 a o e) hx2) (up1 a o e)
  have qs2 : ∀ {svs vs fp}, RSs W r1 svs vs fp → RSs W (r1.at r1.F (upd (upd r1.H dx (.own x)) x (.ins C dx []))) svs vs fp := fun {svs vs fp} q => by
    induction q with
    | nil => exact .nil
    | cons q t ih =>
      refine .cons ?_ ih
      rename_i y ys v vs fp fq
      cases y with
      | v m => exact RM.keep (fun _ z => z) (fun a o _ e => up2 a o e) q fun a _ o e => up2 a o e
      | al j p =>
        obtain ⟨e0, m, v0, cc, e1, e2, e3, wk⟩ := q
        obtain ⟨v1, fp1, e4, h3, rm⟩ := n1.er.slV e1
        rw [e2] at e4; cases e4
        exact ⟨e0, m, v0, cc, e1, e2, e3, wk.keep rm e3 (fun _ z => z) (fun a o _ e => up2 a o e) fun a _ o e => up2 a o e⟩
      | xr i => exact q
      | _ => exact q.elim
  have qi : RM W r1.F (upd (upd r1.H dx (.own x)) x (.ins C dx [])) (.ins false c [] []) (.ref x) [x] := .ins hC upd_same .nil .nil
  have g : callOW (Γ.call f) (.v (.ins false c [] []) :: svs) X r1.σ (makK K) := by
    unfold makeW at g
    rw [hi] at g
    exact g
  refine call_gen (r4 := r1.at r1.F (upd (upd r1.H dx (.own x)) x (.ins C dx []))) (fp := fp ++ [x]) (n2.perm (List.perm_append_singleton x fp).symm) (.cons (x := .v (.ins false c [] [])) (fp := [x]) qi (qs2 qs)) g hX fun sv outs σ' k r' v fq fr es n3 qv first => ?_
  obtain ⟨m, rest, rfl, rfl, k⟩ := makK_ex k
  have qv : RM W r'.F r'.H (.dat .none) v fq := qv
  have ef := qv.fz_nil rfl
  subst ef
  have ev : v = .non := by
    cases qv with
    | dat q => cases q; rfl
  refine ⟨ev, ?_⟩
  obtain ⟨fo, rs, rm, pm⟩ := first _ _ rfl m (.ref x) rfl rfl rfl
  have n4 := (n3.perm (List.Perm.append_left [] pm)).less (show fo.Sublist ([] ++ (rs ++ fo)) from List.sublist_append_right _ _)
  exact hK _ _ k r' es (.ref x) fo n4 rm
theorem int_told {v : V} {fq : List Addr} {k : Int} (q : RS W r v fq (.v (.dat (.int k)))) : v = .int k := RM.toInt (show RM W r.F r.H (.dat (.int k)) v fq from q)
def lenK (K : KS) : KS := fun r σ' => match r with
  | .v (.dat (.int n)) => (0 ≤ n ∧ n < 4611686018427387904) ∧ K (.v (.dat (.int n))) σ'
  | _ => False
theorem lenK_ex {K : KS} {sv : SV} {σ' : QL.Env} (k : lenK K sv σ') : ∃ n : Int, sv = .v (.dat (.int n)) ∧ (0 ≤ n ∧ n < 4611686018427387904) ∧ K sv σ' := by
  unfold lenK at k
  split at k
  · exact ⟨_, rfl, k.1, k.2⟩
  · exact k.elim
theorem own {gg : Nat} {x : SV} {v : V} {fp : List Addr} {K : KS} (n1 : Nx W E r [] r1.σ r1 fp) (q : RS W r1 v fp x) (g : callGW (Γ.call gg) [x] noX r1.σ (lenK K)) (hK : ∀ sv σ', K sv σ' → ∀ r' : Wr, r'.σ = σ' → ∀ (v : V) (fp : List Addr), Nx W E r [] r'.σ r' fp → RS W r' v fp sv → Q v r'.H) :
    spD W (Γ.call gg) [v] r1.H (fun u H' => ∃ n : Int, u = .int n ∧ 0 ≤ n ∧ n < 4611686018427387904 ∧ Q u H') fun _ _ _ => False := by
  refine call_sp (E := E) (r := r) (σV := []) (Wx := fun _ _ _ _ => False) (fp := [] ++ fp) n1 (.cons q .nil) g (fun c m σ' z => z.elim) fun sv σ' k r' es u fq n2 qu => ?_
  obtain ⟨i, rfl, hi, k⟩ := lenK_ex k
  have e := int_told qu
  subst e
  exact ⟨i, rfl, hi.1, hi.2, hK _ _ k r' es _ fq n2 qu⟩
theorem i_len {es : Es} (h : tE Γ dp W E Wx (.prim .len es) σV H Q) : tCB (rLenA Γ W) (tA Γ dp W E Wx es) σV H Q := by
  obtain ⟨r, rfl, er, pre, X, K, ev, hX, hK⟩ := h
  refine ⟨r, rfl, er, pre, X, _, ev, hX, fun svs σ' g r1 e vs fp n1 qs => ?_⟩
  subst e
  cases qs with
  | nil => exact (show False from g).elim
  | cons q t =>
    cases t with
    | cons _ _ => exact (show False from g).elim
    | nil =>
      rename_i x v fp
      refine ⟨v, rfl, ?_⟩
      rw [List.nil_append] at n1
      have g : lenSW Γ x r1.σ K := g
      obtain ⟨m, gm, g⟩ := getW_is (show getW r1.σ x _ from g)
      obtain ⟨m', fm, e, rm, _, _⟩ := getW_ex n1.er q n1.sep gm
      subst e
      have fin : ∀ k : Nat, K (.v (.dat (.int k))) r1.σ → Q (.int k) r1.H := fun k g => hK _ _ g r1 rfl (.int k) [] n1.none (RM.dat .int)
      cases rm with
      | dat rd => cases rd with
        | list f h ln rd => exact .inl ⟨_, .inl ⟨_, .inl (.inl h), rd.length⟩, fin _ g⟩
        | tuple h ln rd => exact .inl ⟨_, .inr ⟨_, h.sq, rd.length⟩, fin _ g⟩
        | str ok ln => exact .inl ⟨_, ⟨ln, rfl⟩, fin _ g⟩
        | dict f h ln rd => exact .inr (.inl ⟨_, _, rfl, h, by rw [← rd.length]; exact fin _ g⟩)
        | _ => exact (show False from g).elim
      | sl h ln rd => exact .inl ⟨_, .inl ⟨_, .inl (.inl h), rd.length⟩, fin _ g⟩
      | lst h ln rd => exact .inl ⟨_, .inl ⟨_, .inl (.inl h), rd.length⟩, fin _ g⟩
      | tup f h ln rd => exact .inl ⟨_, .inr ⟨_, .inl (.inl h), rd.length⟩, fin _ g⟩
      | dic h ln rd => exact .inr (.inl ⟨_, _, rfl, h, by rw [← rd.length]; exact fin _ g⟩)
      | scr f h => exact .inl ⟨_, .inl ⟨_, .inl (.inr ⟨_, h⟩), by simp⟩, fin _ g⟩
      | @ins a dx C c ks fs ms fp' hc h n rf =>
        refine .inr (.inr ?_)
        cases ep : Γ.meth c m_len with
        | none => simp only [ep] at g
        | some gg =>
          simp only [ep] at g
          exact ⟨gg, c, C, a, dx, fs, rfl, hc, h, ep, own n1 q g hK⟩
      | @insF a dx C c ks fs ms hc f h n z rf =>
        refine .inr (.inr ?_)
        cases ep : Γ.meth c m_len with
        | none => simp only [ep] at g
        | some gg =>
          simp only [ep] at g
          exact ⟨gg, c, C, a, dx, fs, rfl, hc, h, ep, own n1 q g hK⟩
/-- C(..) -/
theorem i_makeX {c f : Nat} {es : Es} (hi : Γ.init c = some f) (h : tE Γ dp W E Wx (.make c es []) σV H Q) : tMk Γ W Wx c f (tA Γ dp W E Wx es) σV H Q := by
  obtain ⟨r, rfl, er, pre, X, K, ev, hX, hK⟩ := h
  refine ⟨r, rfl, er, pre, X, _, ev, hX, fun svs σ' g r1 e vs fp n1 qs => ?_⟩
  subst e
  exact make_ok hi n1 qs g hX fun sv σ' k => hK sv σ' k
end
end QL
end
section
set_option linter.all false
set_option maxRecDepth 100000
set_option maxHeartbeats 1000000
/-! SE7: items stored; several names; try with one named clause. -/
namespace QL
open PySem PySem.Spec PyProof.Rows L2

def rSet : TSet := fun o i v H Q => rSetL o i v H Q ∨ rSetD o i v H Q
theorem set_any {X : Cx} (hu : X.A.units + 1 < cLine) : PSet X rSet := by
  intro pins s σ H o i v ov iv u Q I ro ri rv h
  rcases h with h | h
  · exact set_list pins s σ H o i v ov iv u Q I ro ri rv h
  · exact set_dict hu pins s σ H o i v ov iv u Q I ro ri rv h
section
variable {Γ : Ctx} {dp : Bool} {W : Wd} {E : List (Addr × Nat × Addr)} {Wx : WX} {r r0 r1 r2 r3 r4 r5 r6 : Wr} {σV : L2.St} {H : Hp} {Q : VK} {D : Ends} {n : Nat} {fx : Nat → Bool} {Dp : Post}
theorem RMs.setAt {F : Addr → Prop} {m : M} {y : V} {fm : List Addr} (rm : RM W F H m y fm) : ∀ {ms : List M} {vs : List V} {fp : List Addr} {q : Nat}, RMs W F H ms vs fp → q < ms.length → ∃ fp' fc rest, RMs W F H (ms.set q m) (vs.set q y) fp' ∧ fp.Perm (rest ++ fc) ∧ fp'.Perm (rest ++ fm)
  | _, _, _, _, .nil, h => by simp at h
  | _, _, _, 0, .cons (fp := fp) (fq := fq) r t, _ => ⟨fm ++ fq, fp, fq, .cons rm t, List.perm_append_comm, List.perm_append_comm⟩
  | _, _, _, q + 1, .cons (fp := fp) (fq := fq) r t, h => by
    obtain ⟨fp', fc, rest, a, b, c⟩ := RMs.setAt rm (q := q) t (by simpa using h)
    refine ⟨fp ++ fp', fc, fp ++ rest, .cons r a, ?_, ?_⟩
    · rw [List.append_assoc]; exact List.Perm.append_left _ b
    · rw [List.append_assoc]; exact List.Perm.append_left _ c
theorem setL_is (ds : List QL.D) (j : Nat) (a : M) : IsL (setL ds j a) ((ds.map .dat).set j a) := by
  unfold setL
  split
  · exact .inr ⟨_, rfl, by rw [List.map_set]⟩
  · exact .inl rfl
theorem RKs.updAt {K : PySem.W.Frag} {F : Addr → Prop} {ds : List (QL.D × QL.D)} {kvs : List (Key × V)} {l : Addr} {o : HO} (q : RKs K F H ds kvs) (nf : ¬ F l) : RKs K F (L2.upd H l o) ds kvs :=
  q.keep (fun _ z => z) fun a o' f e => upd_keep (fun z => nf (by rw [← z]; exact f)) e
theorem dput_nil {k v : QL.D} : dput [] k v = [(k, v)] := rfl
theorem RKs.mapPut {K : PySem.W.Frag} {F : Addr → Prop} {x d : QL.D} {k : Key} {u : V} (hk : keyOf x = some k) (ru : RD K F H d u) : ∀ {ds : List (QL.D × QL.D)} {kvs : List (Key × V)}, RKs K F H ds kvs →
    RKs K F H (ds.map fun p => if PyData.eqv p.1 x then (p.1, d) else p) (kvs.map fun kv => if kv.1 = k then (kv.1, u) else kv)
  | _, _, .nil => .nil
  | _, _, .cons (d := d0) (e := e) (k := l) (v := v) h rk r t => by
    have ih := RKs.mapPut hk ru t
    rw [List.map_cons, List.map_cons]
    dsimp only
    rw [key_eqv h hk]
    by_cases z : l = k
    · rw [if_pos (decide_eq_true z), if_pos z]; exact .cons h rk ru ih
    · rw [if_neg (by simpa using z), if_neg z]; exact .cons h rk r ih
theorem RKs.append {K : PySem.W.Frag} {F : Addr → Prop} : ∀ {ds es : List (QL.D × QL.D)} {kvs lvs : List (Key × V)}, RKs K F H ds kvs → RKs K F H es lvs → RKs K F H (ds ++ es) (kvs ++ lvs)
  | _, _, _, _, .nil, s => s
  | _, _, _, _, .cons a b c t, s => .cons a b c (RKs.append t s)
theorem RKs.any {K : PySem.W.Frag} {F : Addr → Prop} {x : QL.D} {k : Key} (hk : keyOf x = some k) : ∀ {ds : List (QL.D × QL.D)} {kvs : List (Key × V)}, RKs K F H ds kvs → (dget ds x).isSome = kvs.any fun kv => decide (kv.1 = k)
  | _, _, .nil => rfl
  | _, _, .cons (k := l) h rk r t => by
    rw [dget_cons, key_eqv h hk, List.any_cons, ← RKs.any hk t]
    by_cases z : l = k
    · rw [if_pos (decide_eq_true z)]; simp [z]
    · rw [if_neg (by simpa using z)]; simp [z]
theorem RKs.put {K : PySem.W.Frag} {F : Addr → Prop} {x d : QL.D} {k : Key} {u : V} {ds : List (QL.D × QL.D)} {kvs : List (Key × V)} (q : RKs K F H ds kvs) (hk : keyOf x = some k) (rk : RD K F H x (kV k)) (ru : RD K F H d u) : RKs K F H (dput ds x d) (putK kvs k u) := by
  unfold dput putK
  rw [q.any hk]
  split
  · exact q.mapPut hk ru
  · exact q.append (.cons hk rk ru .nil)
theorem dput_len {ds : List (QL.D × QL.D)} {x d : QL.D} : (dput ds x d).length ≤ ds.length + 1 := by
  unfold dput
  split <;> simp
theorem i_setIx {a i e : QL.E} (h : tS Γ dp W E Wx fx (.setIx a i e) D σV H) : tAsg (tE Γ dp W E Wx e) (gSub (tE Γ dp W E Wx a) (tE Γ dp W E Wx i) rSet) D σV H := by
  obtain ⟨r, rfl, er, pre, Dp, ev, en⟩ := h
  have hX : ∀ c m σ', Dp.ex c m σ' → XEp W E Wx r σV c m σ' := fun c m σ' z => en.exX c m σ' z r (.refl er) σV pre rfl
  refine ⟨r, rfl, er, pre, Dp.ex, _, ev, hX, fun sv σ' g r1 es y fp n q => ?_⟩
  subst es
  obtain ⟨r2, m, fz, n2, g, rm, eH⟩ := putW_ex n.er q n.sep g
  have n02 := n.trans n2
  rw [← eH]
  have hX2 : ∀ c m σ', Dp.ex c m σ' → XEp W E Wx r2 σV c m σ' := fun c m σ' z => (hX c m σ' z).later n02 rm.there
  have pre2 : Pre σV r2.w := by rw [n02.w]; exact pre
  refine ⟨r2, rfl, n2.er, pre2, Dp.ex, _, g, hX2, fun x σ' g r3 es vx fx n3 qx => ?_⟩
  subst es
  refine holdE n3 qx hX2 pre2 g fun x' j v2 r5 fx' fy n5 qx' qj g => ?_
  have w5 := n5.wide n02.sep rm.there
  have n05 := n02.trans w5
  have rm5 : RM W r5.F r5.H m y fz := Nx.waits n02.er n02.sep n5 rm
  have fin : ∀ {σ' r6}, Nx W E r [] σ' r6 [] → Dp.nx r6.σ → D.nx σV r6.H := fun {σ' r6} n6 k => en.nx _ k r6 rfl n6.lat σV (by rw [n6.w]; exact pre) rfl
  cases x' with
  | al b p =>
    obtain ⟨rfl, _⟩ := id qx'
    obtain ⟨c, gm, g⟩ := getW_is (show getW r5.σ (.al b p) _ from g)
    obtain ⟨nj, fj, g, rnj, _, _⟩ := getW_ex n5.er qj n5.sep.left (show getW r5.σ j _ from g)
    obtain ⟨d, ed, g⟩ := pyW_ex g
    have rd := rnj.pyT ed
    have n05' := n05.less (show fz.Sublist ((fy ++ []) ++ fz) from List.sublist_append_right _ _)
    have list : ∀ ms m' k q, ((∃ ds, c = .sl ds) ∨ ∃ ms, c = .lst ms) → lsM c = ms → d = .int k → ixN ms.length k = some q → IsL m' (ms.set q m) → (setMW r5.σ b p m' fun σ' => mapW (clrB b p) σ' Dp.nx) → rSetL vx v2 y r5.H fun H' => D.nx σV H' := fun ms m' k q hc hl hd hq il gs => by
      obtain ⟨fq, rc, ndq, fA, step⟩ := mut_ex (K := Dp.nx) n05.er qx' gm gs
      obtain ⟨l, vl, ms', fp', rfl, rfl, hh, rms, ln, ilc⟩ := listE rc hc
      rw [ilc.ls] at hl
      subst hl
      have e2 : v2 = .int k := by rw [hd] at rd; cases rd; rfl
      subst e2
      have lF : ¬ r5.F l := n05.er.nf l (fA l List.mem_cons_self)
      have ndc := List.nodup_cons.mp ndq
      have apz : ∀ a ∈ fz, a ∉ l :: fp' := fun a ha z => n05'.sep.apart a ha (fA a z)
      have lz : l ∉ fz := fun z => apz l z List.mem_cons_self
      have hlt : q < ms'.length := (ixN_seq hq).2.1
      obtain ⟨fp2, fc, rest, rms2, p1, p2⟩ := RMs.setAt (RM.updAt (o := .lst (vl.set q y)) rm5 lF lz) (rms.updAt (o := .lst (vl.set q y)) lF ndc.1) hlt
      have inn : ∀ a ∈ rest, a ∈ fp' := fun a ha => p1.mem_iff.mpr (List.mem_append_left _ ha)
      have mem2 : ∀ a ∈ fp2, a ∈ fp' ∨ a ∈ fz := fun a ha => (List.mem_append.mp (p2.mem_iff.mp ha)).imp (inn a) id
      refine ⟨l, vl, k, q, rfl, rfl, hh, by rw [← rms.length]; exact hq, ?_⟩
      obtain ⟨r6, n6, k6, eH6, eF6⟩ := step (upd r5.H l (.lst (vl.set q y))) (l :: fp2) [] fz (fun a o e na => upd_keep (fun z => na (by rw [z]; exact List.mem_cons_self)) e) (fun a ha => by
        by_cases z : a = l
        · subst z; rw [upd_same]; simp
        · rw [upd_ne z]
          rcases List.mem_cons.mp ha with y | y
          · exact absurd y z
          · exact rms.there a y) (il.rm upd_same (by simpa using ln) rms2) n05'.sep rm5.there (by
        rw [List.append_nil]
        refine List.nodup_cons.mpr ⟨fun z => (mem2 l z).elim ndc.1 lz, perm_nodup p2 (List.nodup_append.mpr ⟨(List.nodup_append.mp (perm_nodup p1.symm ndc.2)).1, n05'.sep.ndF, fun a ha b hb z => by subst z; exact apz a hb (List.mem_cons_of_mem _ (inn a ha))⟩)⟩) (fun a ha => by
        rw [List.append_nil] at ha
        rcases List.mem_cons.mp ha with z | z
        · exact .inl (by rw [z]; exact List.mem_cons_self)
        · exact (mem2 a z).imp (List.mem_cons_of_mem _) id)
      rw [← eH6]
      exact fin (n05'.trans n6) k6
    cases c with
    | sl ds =>
      cases d with
      | int k =>
        obtain ⟨q, e1, g⟩ := g
        exact .inl (list (ds.map .dat) _ k q (.inl ⟨ds, rfl⟩) rfl rfl (by simpa using e1) (setL_is ds q m) g)
      | _ => exact (show False from g).elim
    | lst ms =>
      cases d with
      | int k =>
        obtain ⟨q, e1, g⟩ := g
        exact .inl (list ms _ k q (.inr ⟨ms, rfl⟩) rfl rfl e1 (.inl rfl) g)
      | _ => exact (show False from g).elim
    | dic kvs =>
      cases m with
      | dat dd =>
        have g : (keyK d = true ∧ kvs.length < 16777216) ∧ setMW r5.σ b p (.dic (dput kvs d dd)) fun σ' => mapW (clrB b p) σ' Dp.nx := by cases d <;> exact g
        obtain ⟨⟨hk, hlen⟩, g⟩ := g
        obtain ⟨fq, rc, ndq, fA, step⟩ := mut_ex (K := Dp.nx) n05.er qx' gm g
        cases rc with
        | @dic l kvs' ds hh ln rk =>
          cases rm5 with
          | dat rdd =>
          have lF : ¬ r5.F l := n05.er.nf l (fA l List.mem_cons_self)
          obtain ⟨k, ek, ev2⟩ := RKs.key rd hk
          have rkey : RD W.K r5.F r5.H d v2 := by
            cases rd with
            | int => exact .int
            | str ok ln => exact .str ok ln
            | _ => cases hk
          rw [ev2] at rkey
          refine .inr ⟨l, upd r5.H l (.dK (putK kvs' k y)), rfl, by rw [ev2]; exact .k hh (by rw [← rk.length, ← sizeL]; exact hlen), ?_⟩
          have rk2 := (RKs.put rk ek rkey rdd).updAt (o := .dK (putK kvs' k y)) lF
          obtain ⟨r6, n6, k6, eH6, eF6⟩ := step (upd r5.H l (.dK (putK kvs' k y))) [l] [] [] (fun a o e na => upd_keep (fun z => na (by rw [z]; exact List.mem_cons_self)) e) (fun a ha => by
            have : a = l := by simpa using ha
            subst this; rw [upd_same]; simp) (.dic upd_same (by have := @dput_len kvs d dd; rw [← sizeL]; omega) rk2) (.nil n05.er) (by simp) (by simp) (fun a ha => .inl (by simpa using ha))
          rw [← eH6]
          exact fin (n05.none.trans n6) k6
      | _ => exact (show False from (by cases d <;> exact g)).elim
    | _ => exact (show False from (by cases d <;> exact g)).elim
  | _ => exact (show False from g).elim
end
end QL
end
section
set_option linter.all false
set_option maxRecDepth 100000
set_option maxHeartbeats 1000000
/-! SE8: several names; try with one named clause. -/
namespace QL
open PySem PySem.Spec PyProof.Rows L2

def setAll : L2.St → List Nat → List V → L2.St
  | σ, i :: is, v :: vs => setAll (σ.set i (some v)) is vs
  | σ, _, _ => σ
section
variable {Γ : Ctx} {dp : Bool} {W : Wd} {E : List (Addr × Nat × Addr)} {Wx : WX} {r r0 r1 r2 r3 r4 r5 r6 : Wr} {σV : L2.St} {H : Hp} {Q : VK} {D : Ends} {n : Nat} {fx : Nat → Bool} {Dp : Post}
theorem norms_ex {i : Nat} (er : ER W E r1) (eH : r1.H = r.H) (eF : r1.F = r.F) (ew : ∀ j, j ≠ i → r1.w[j]? = r.w[j]?) : ∀ {ss : List SV} {vs : List V} {fp : List Addr} {K : List SV → Prop}, RSs W r ss vs fp → memN i (roots ss) = false → normsW ss r1.σ K → ∃ ss', RSs W r1 ss' vs fp ∧ K ss'
  | [], _, _, K, .nil, _, g => ⟨[], .nil, g⟩
  | s :: ss, _, _, K, .cons (v := v) (fp := fp) q t, hm, g => by
    have g : normW r1.σ s fun s' => normsW ss r1.σ fun r' => K (s' :: r') := g
    have one : ∃ s', RS W r1 v fp s' ∧ normsW ss r1.σ fun r' => K (s' :: r') := by
      cases s with
      | v m => exact ⟨.v m, RM.same q (fun _ z => by rw [eF]; exact z) eH, g⟩
      | al j p =>
        obtain ⟨rfl, m, v0, c, e1, e2, e3, wk⟩ := q
        have hj : j ≠ i := fun z => by
          subst z
          simp [roots, memN] at hm
        obtain ⟨s2, es, _⟩ := nthW_ex (show nthW r1.σ j _ from g)
        cases s2 with
        | v m2 =>
          obtain ⟨s3, es', gg⟩ := nthW_ex (show nthW r1.σ j _ from g)
          rw [es] at es'; cases es'
          obtain ⟨c', ec, _⟩ := atW_ex gg
          have qq : RS W r1 v [] (.al j p) := ⟨rfl, m2, v0, c', es, by rw [ew j hj]; exact e2, ec, by rw [eH]; exact wk⟩
          obtain ⟨sv', kk, q'⟩ := normW_ex er qq g
          exact ⟨sv', q', kk⟩
        | _ =>
          obtain ⟨s3, es', gg⟩ := nthW_ex (show nthW r1.σ j _ from g)
          rw [es] at es'; cases es'
          exact gg.elim
      | _ => exact g.elim
    obtain ⟨s', q', g⟩ := one
    have hm' : memN i (roots ss) = false := by
      cases s with
      | al j p =>
        simp only [roots, memN, Bool.or_eq_false_iff] at hm
        exact hm.2
      | _ => exact hm
    obtain ⟨ss', t', k⟩ := norms_ex er eH eF ew t hm' g
    exact ⟨s' :: ss', .cons q' t', k⟩
theorem par_all : ∀ {ts : List Tg} {svs : List SV} {vs : List V} {fp : List Addr} {r : Wr} {σV : L2.St} {K : QL.Env → Prop}, ER W E r → RSs W r svs vs fp → Sep r fp → Pre σV r.w → parW ts svs r.σ K →
    ∃ is r', ts = is.map Tg.n ∧ vs.length = is.length ∧ K r'.σ ∧ ER W E r' ∧ r'.H = r.H ∧ r'.F = r.F ∧ (∀ a ∈ r'.A, a ∈ r.A ++ fp) ∧ Pre (setAll σV is vs) r'.w ∧ (∀ j, j ∉ is → r'.w[j]? = r.w[j]?) ∧ r'.w.length = r.w.length
  | [], [], _, _, r, σV, K, h, .nil, s, p, g => ⟨[], r, rfl, rfl, g, h, rfl, rfl, fun a ha => List.mem_append_left _ ha, p, fun _ _ => rfl, rfl⟩
  | [], _ :: _, _, _, r, σV, K, h, _, s, p, g => g.elim
  | .t _ :: _, [], _, _, r, σV, K, h, _, s, p, g => g.elim
  | .n _ :: _, [], _, _, r, σV, K, h, _, s, p, g => g.elim
  | .t _ :: _, _ :: _, _, _, r, σV, K, h, _, s, p, g => g.elim
  | .n i :: ts, sv :: ss, _, _, r, σV, K, h, .cons (v := v) (vs := vs) (fp := fp) (fq := fq) q t, s, p, g => by
    cases hm : memN i (roots ss) with
    | true => unfold parW at g; rw [hm] at g; exact g.elim
    | false =>
      unfold parW at g
      rw [hm] at g
      obtain ⟨hi, r1, nw, g, eH, eF⟩ := assignW_ex h q s.right g
      have sub : ∀ a ∈ r1.A, a ∈ r.A ++ fp := fun a ha => by
        rcases nw.st.a a ha with z | z
        · exact z
        · exact absurd (by rw [eH]; exact z) (nw.er.da a ha)
      obtain ⟨ss', t', g⟩ := norms_ex (i := i) nw.er eH eF (fun j hj => by rw [nw.w, List.getElem?_set_ne (fun z => hj z.symm)]) t hm g
      have nd := List.nodup_append.mp s.nd
      have nd2 := List.nodup_append.mp nd.2.1
      have s' : Sep r1 fq := ⟨List.nodup_append.mpr ⟨nw.er.nd, nd2.1, fun a ha b hb z => by
        subst z
        rcases List.mem_append.mp (sub a ha) with y | y
        · exact nd.2.2 a y a (List.mem_append_left _ hb) rfl
        · exact nd2.2.2 a hb a y rfl⟩, fun a ha => by rw [eF]; exact s.left.nf a ha⟩
      obtain ⟨is, r2, e1, e2, k, er2, H2, F2, sub2, p2, w2, l2⟩ := par_all nw.er t' s' (by rw [nw.w]; exact p.set i v) g
      refine ⟨i :: is, r2, by rw [e1]; rfl, by simp [e2], k, er2, H2.trans eH, F2.trans eF, fun a ha => ?_, p2, fun j hj => ?_, l2.trans (by rw [nw.w, List.length_set])⟩
      · rcases List.mem_append.mp (sub2 a ha) with y | y
        · rcases List.mem_append.mp (sub a y) with y | y
          · exact List.mem_append_left _ y
          · exact List.mem_append_right _ (List.mem_append_right _ y)
        · exact List.mem_append_right _ (List.mem_append_left _ y)
      · have hj1 : i ≠ j := fun z => hj (by simp [z])
        rw [w2 j fun z => hj (List.mem_cons_of_mem _ z), nw.w, List.getElem?_set_ne hj1]
theorem setAll_len : ∀ {is : List Nat} {vs : List V} {σ : L2.St}, (setAll σ is vs).length = σ.length
  | [], _, σ => rfl
  | _ :: _, [], σ => rfl
  | i :: is, v :: vs, σ => by
    show (setAll (σ.set i (some v)) is vs).length = _
    rw [setAll_len, List.length_set]
theorem mapN_inj : ∀ {a b : List Nat}, a.map Tg.n = b.map Tg.n → a = b
  | [], [], _ => rfl
  | [], _ :: _, h => by cases h
  | _ :: _, [], h => by cases h
  | a :: as, b :: bs, h => by
    have h1 : Tg.n a = Tg.n b := (List.cons.inj h).1
    cases h1
    rw [mapN_inj (List.cons.inj h).2]
theorem i_parL {is : List Nat} {es : Es} (hb : ∀ i ∈ is, fx i = false) (h : tS Γ dp W E Wx fx (.par (is.map Tg.n) es) D σV H) : tA Γ dp W E Wx es σV H fun vs H1 => vs.length = is.length ∧ D.nx (setAll σV is vs) H1 := by
  obtain ⟨r, rfl, er, pre, Dp, ev, en⟩ := h
  refine ⟨r, rfl, er, pre, Dp.ex, _, ev, fun c m σ' z => en.exX c m σ' z r (.refl er) σV pre rfl, fun svs σ' g r1 es vs fp n qs => ?_⟩
  subst es
  obtain ⟨is', r2, e1, e2, k, er2, H2, F2, sub2, p2, w2, l2⟩ := par_all n.er qs n.sep (by rw [n.w]; exact pre) g
  have e1 : is' = is := by
    exact mapN_inj e1.symm
  subst e1
  refine ⟨e2, ?_⟩
  rw [← H2]
  refine en.nx _ k r2 rfl ⟨er2, by rw [l2, n.w], fun j hj => by rw [w2 j (fun z => by rw [hb j z] at hj; cases hj), n.w], ?_⟩ _ p2 setAll_len
  have st1 := n.st
  rw [List.append_nil] at st1
  exact st1.trans ⟨fun a z => by rw [F2]; exact z, fun a o e _ => by rw [H2]; exact e, fun a ha => .inl (sub2 a ha), fun a z => .inl (by rw [← F2]; exact z)⟩
theorem tA_mono {es : Es} {Q Q' : List V → Hp → Prop} (h : tA Γ dp W E Wx es σV H Q) (m : ∀ v H, Q v H → Q' v H) : tA Γ dp W E Wx es σV H Q' := by
  obtain ⟨r, eH, er, pre, X, K, ev, hX, hK⟩ := h
  exact ⟨r, eH, er, pre, X, K, ev, hX, fun sv σ' k r' es v fp n q => m _ _ (hK sv σ' k r' es v fp n q)⟩
theorem i_par2 {i j : Nat} {es : Es} (hi : fx i = false) (hj : fx j = false) (h : tS Γ dp W E Wx fx (.par [.n i, .n j] es) D σV H) : tPar i j (tA Γ dp W E Wx es) D σV H := by
  refine tA_mono (i_parL (is := [i, j]) (by simp [hi, hj]) h) fun vs H1 ⟨e, k⟩ => ?_
  match vs, e with
  | [v, w], _ => exact ⟨v, w, rfl, k⟩
theorem i_par3 {i j l : Nat} {es : Es} (hi : fx i = false) (hj : fx j = false) (hl : fx l = false) (h : tS Γ dp W E Wx fx (.par [.n i, .n j, .n l] es) D σV H) : tPar3 i j l (tA Γ dp W E Wx es) D σV H := by
  refine tA_mono (i_parL (is := [i, j, l]) (by simp [hi, hj, hl]) h) fun vs H1 ⟨e, k⟩ => ?_
  match vs, e with
  | [u, v, w], _ => exact ⟨u, v, w, rfl, k⟩
/-! #### try -/
theorem ER.moreE {E' : List (Addr × Nat × Addr)} (h : ER W E r) (s : ∀ x ∈ E, x ∈ E') : ER W E' r := by
  refine ⟨h.lw, h.lf, fun i sv e => ?_, h.nd, h.nf, h.df, h.da⟩
  obtain ⟨v, fp, h1, h2, q⟩ := h.sl i sv e
  refine ⟨v, fp, h1, h2, ?_⟩
  cases sv with
  | exc c m => obtain ⟨a, d, pv, hE, z⟩ := q; exact ⟨a, d, pv, s _ hE, z⟩
  | exg c => obtain ⟨z, a, d, hE, y⟩ := q; exact ⟨z, a, d, s _ hE, y⟩
  | _ => exact q
theorem noExc_at : ∀ {σ : QL.Env} {i : Nat} {s : SV}, noExc σ = true → σ[i]? = some (some s) → (∀ c m, s ≠ .exc c m) ∧ ∀ c, s ≠ .exg c
  | [], i, s, _, e => by simp at e
  | x :: σ, 0, s, h, e => by
    have e : x = some s := by simpa using e
    subst e
    cases s with
    | exc c m => exact absurd h (by simp [noExc])
    | exg c => exact absurd h (by simp [noExc])
    | v m => exact ⟨fun _ _ z => (by cases z), fun _ z => (by cases z)⟩
    | al j p => exact ⟨fun _ _ z => (by cases z), fun _ z => (by cases z)⟩
    | xr j => exact ⟨fun _ _ z => (by cases z), fun _ z => (by cases z)⟩
  | x :: σ, i + 1, s, h, e => by
    have h' : noExc σ = true := by
      cases x with
      | none => exact h
      | some s => cases s with
        | exc c m => exact absurd h (by simp [noExc])
        | exg c => exact absurd h (by simp [noExc])
        | _ => exact h
    exact noExc_at h' (by simpa using e)
theorem ER.lessE {E' : List (Addr × Nat × Addr)} (h : ER W E' r) (s : noExc r.σ = true) : ER W E r := by
  refine ⟨h.lw, h.lf, fun i sv e => ?_, h.nd, h.nf, h.df, h.da⟩
  obtain ⟨v, fp, h1, h2, q⟩ := h.sl i sv e
  obtain ⟨n1, n2⟩ := noExc_at s e
  refine ⟨v, fp, h1, h2, ?_⟩
  cases sv with
  | exc c m => exact absurd rfl (n1 c m)
  | exg c => exact absurd rfl (n2 c)
  | _ => exact q
/-- a suite's end: its name is gone -/
theorem off_ex {i : Nat} {K : QL.Env → Prop} {E' : List (Addr × Nat × Addr)} (h : ER W E' r) (g : offW i r.σ K) : i < r.σ.length ∧ ∃ r', K r'.σ ∧ ER W E r' ∧ r'.F = r.F ∧ r'.H = r.H ∧ (∀ a ∈ r'.A, a ∈ r.A) ∧ r'.w = r.w.set i none := by
  obtain ⟨hi, r1, nw, g, eH, eF⟩ := clearW_ex h none (show mapW (clr i) r.σ fun σ1 => setW none i σ1 _ from g)
  refine ⟨hi, r1, ?_⟩
  cases z : noExc r1.σ with
  | false => rw [z] at g; exact g.elim
  | true =>
    rw [z] at g
    refine ⟨g, nw.er.lessE z, eF, eH, fun a ha => ?_, nw.w⟩
    rcases nw.st.a a ha with y | y
    · simpa using y
    · exact absurd (by rw [eH]; exact y) (nw.er.da a ha)
theorem Pre.setN {w : List (Option V)} (p : Pre σV w) (i : Nat) : Pre (σV.set i none) (w.set i none) := by
  refine ⟨by simpa using p.1, fun j u hj e => ?_⟩
  have hj : j < σV.length := by simpa using hj
  by_cases z : i = j
  · subst z
    rw [List.getElem?_set_self (by have := p.1; omega)] at e
    cases e
  · rw [List.getElem?_set_ne z] at e ⊢
    exact p.2 j u hj e
abbrev wF : WX := fun _ _ _ _ => False
/-- an except suite's reading, the exception at a -/
def tSu (Γ : Ctx) (dp : Bool) (W : Wd) (E : List (Addr × Nat × Addr)) (fx : Nat → Bool) (su : Ss) (a : Addr) (cls : Value) (d : Option Addr) : TS := fun D σ H => ∃ c C dd, W.cls c = some C ∧ cls = .ref C ∧ d = some dd ∧ tSs Γ dp W ((a, c, dd) :: E) wF fx su D σ H
/-- a suite, from the exception -/
theorem suite_ok {su : Ss} {i c : Nat} {m : M} {a C d : Addr} {pv : V} {fp : List Addr} {σV' : L2.St} (hi : fx i = false) (en : EndsR W E Wx fx r n Dp D) (l : LatF W E fx r r1 fp) (fd : r1.F d) (hd : r1.H d = some (.xd [(W.fld f_value, pv)])) (rm : RM W r1.F r1.H m pv fp) (hC : W.cls c = some C) (p : Pre σV' r1.w) (hl : σV'.length = n)
    (g : mapW (clr i) r1.σ fun σ1 => setW (some (.exc c m)) i σ1 fun σ2 => exSs Γ dp su σ2 (Dp.off i)) :
    tSu Γ dp W E fx su a (.ref C) (some d) { nx := fun σ' H' => D.nx (σ'.set i none) H', rt := D.rt, bk := fun σ' H' => D.bk (σ'.set i none) H', ct := fun σ' H' => D.ct (σ'.set i none) H' } (σV'.set i (some (.ref a))) r1.H := by
  obtain ⟨hi1, g⟩ := setW_ex (mapW_eq g)
  have hi1 : i < r1.σ.length := by simpa using hi1
  have er1 : ER W ((a, c, d) :: E) r1 := l.er.moreE fun x hx => List.mem_cons_of_mem _ hx
  obtain ⟨fp0, hf⟩ := l.er.fpAt hi1
  obtain ⟨er2, sub⟩ := er1.slot hi1 (some (.exc c m)) (some (.ref a)) fp fp0 hf l.sep.ndF (fun b hb => .inr (l.sep.apart b hb)) l.sep.nf rm.there fun s e => by
    cases e
    exact ⟨.ref a, rfl, a, d, pv, List.mem_cons_self, rfl, fd, hd, rm⟩
  refine ⟨c, C, d, hC, rfl, rfl, ⟨r1.F, r1.H, (r1.σ.map (clr i)).set i (some (.exc c m)), r1.w.set i (some (.ref a)), r1.fps.set i fp⟩, rfl, er2, p.set i _, Dp.off i, g, ?_⟩
  rw [List.length_set, hl]
  -- what follows a suite's end
  have back : ∀ {K : QL.Env → Prop} {σ' : QL.Env} {r3 : Wr}, offW i σ' K → r3.σ = σ' → Lat W ((a, c, d) :: E) fx ⟨r1.F, r1.H, (r1.σ.map (clr i)).set i (some (.exc c m)), r1.w.set i (some (.ref a)), r1.fps.set i fp⟩ r3 →
      ∃ r4, K r4.σ ∧ r4.H = r3.H ∧ r4.F = r3.F ∧ (∀ b ∈ r4.A, b ∈ r3.A) ∧ r4.w = r3.w.set i none ∧ Lat W E fx r r4 := fun {K σ' r3} g e l3 => by
    subst e
    obtain ⟨_, r4, k, er4, eF, eH, sub4, ew⟩ := off_ex (E := E) l3.er g
    refine ⟨r4, k, eH, eF, sub4, ew, er4, ?_, fun j hj => ?_, ?_⟩
    · rw [ew, List.length_set, l3.lw, List.length_set, l.lw]
    · rw [ew, set_ws hi j hj, l3.ws j hj, set_ws hi j hj, l.ws j hj]
    · refine l.st.trans ((Stp.mk (F := r1.F) (H := r1.H) (F' := r1.F) (H' := r1.H) (A' := (r1.fps.set i fp).flatten) (fun _ z => z) (fun _ _ e _ => e) (fun b hb => .inl ?_) (fun _ z => .inl z)).trans (l3.st.trans ⟨fun b z => by rw [eF]; exact z, fun b o e _ => by rw [eH]; exact e, fun b hb => .inl (sub4 b hb), fun b z => .inl (by rw [← eF]; exact z)⟩))
      exact List.mem_append.mpr (sub b hb)
  refine ⟨fun σ' h r3 e l3 σ3 p3 n3 => ?_, fun sv σ' h r3 v fq e l3 q => ?_, fun σ' h r3 e l3 σ3 p3 n3 => ?_, fun σ' h r3 e l3 σ3 p3 n3 => ?_, fun c m σ' h => h.elim⟩
  · obtain ⟨r4, k, eH, _, _, ew, l4⟩ := back h e l3
    show D.nx (σ3.set i none) r3.H
    rw [← eH]
    exact en.nx _ k r4 rfl l4 _ (by rw [ew]; exact p3.setN i) (by rw [List.length_set, n3])
  · cases sv with
    | v m3 =>
      obtain ⟨r4, k, eH, eF, sub4, ew, l4⟩ := back (show offW i σ' fun σ' => Dp.rt (.v m3) σ' from h) e l3.lat
      rw [← eH]
      have q : RM W r3.F r3.H m3 v fq := q
      refine en.rt _ _ k r4 v fq rfl ⟨l4.er, l4.lw, l4.ws, ?_, ⟨?_, fun b hb => by rw [eF]; exact l3.sep.nf b hb⟩⟩ (by show RM W r4.F r4.H m3 v fq; rw [eF, eH]; exact q)
      · have s3 := l3.st
        refine l.st.trans ((Stp.mk (F := r1.F) (H := r1.H) (F' := r1.F) (H' := r1.H) (A' := (r1.fps.set i fp).flatten) (fun _ z => z) (fun _ _ e _ => e) (fun b hb => .inl (List.mem_append.mpr (sub b hb))) (fun _ z => .inl z)).trans (s3.trans ⟨fun b z => by rw [eF]; exact z, fun b o e _ => by rw [eH]; exact e, fun b hb => .inl ?_, fun b z => .inl (by rw [← eF]; exact z)⟩))
        rcases List.mem_append.mp hb with y | y
        · exact List.mem_append_left _ (sub4 b y)
        · exact List.mem_append_right _ y
      · have := List.nodup_append.mp l3.sep.nd
        exact List.nodup_append.mpr ⟨l4.er.nd, this.2.1, fun b hb b' hb' => this.2.2 b (sub4 b hb) b' hb'⟩
    | _ => exact (show False from h).elim
  · obtain ⟨r4, k, eH, _, _, ew, l4⟩ := back h e l3
    show D.bk (σ3.set i none) r3.H
    rw [← eH]
    exact en.bk _ k r4 rfl l4 _ (by rw [ew]; exact p3.setN i) (by rw [List.length_set, n3])
  · obtain ⟨r4, k, eH, _, _, ew, l4⟩ := back h e l3
    show D.ct (σ3.set i none) r3.H
    rw [← eH]
    exact en.ct _ k r4 rfl l4 _ (by rw [ew]; exact p3.setN i) (by rw [List.length_set, n3])
/-- try: b; except X as n: su -/
theorem i_tryAs {b su : Ss} {cd i : Nat} {Cd : Value} (hi : fx i = false) (hx : ∀ c C, W.cls c = some C → PySem.W.exmOne W.K (.ref C) Cd = some (Γ.sub c cd)) (h : tS Γ dp W E Wx fx (.tr b (.cons [cd] (some i) su .nil)) D σV H) :
    tSs Γ dp W E (wAs W.K Cd i (tSu Γ dp W E fx su) Wx D) fx b D σV H := by
  obtain ⟨r, rfl, er, pre, Dp, ev, en⟩ := h
  refine ⟨r, rfl, er, pre, _, ev, en.nx, en.rt, en.bk, en.ct, fun c m σ' z r' fp d pv e l fd hd rm C hC σV' p hl => ?_⟩
  subst e
  refine ⟨Γ.sub c cd, hx c C hC, fun hb a ha => ?_, fun hb => ?_⟩
  · have z : condW ([cd].any fun d => Γ.sub c d) (mapW (clr i) r'.σ fun σ1 => setW (some (.exc c m)) i σ1 fun σ2 => exSs Γ dp su σ2 (Dp.off i)) (exH Γ dp .nil c m r'.σ Dp) := z
    rw [show ([cd].any fun d => Γ.sub c d) = true by simp [hb]] at z
    exact suite_ok hi en l fd hd rm hC p hl z
  · have z : condW ([cd].any fun d => Γ.sub c d) (mapW (clr i) r'.σ fun σ1 => setW (some (.exc c m)) i σ1 fun σ2 => exSs Γ dp su σ2 (Dp.off i)) (exH Γ dp .nil c m r'.σ Dp) := z
    rw [show ([cd].any fun d => Γ.sub c d) = false by simp [hb]] at z
    exact en.ex c m _ z r' fp d pv rfl l fd hd rm C hC σV' p hl
end
end QL
end
section
set_option linter.all false
set_option maxRecDepth 100000
set_option maxHeartbeats 1000000
/-! SF1: a def's body at its start, from its promise. -/
namespace QL
open PySem PySem.Spec PyProof.Rows L2

/-- slots that stay: those behind a def's, and its parameters that it does not store anew -/
def fxOf (np : Nat) (reb : List Nat) (ns : Nat) : Nat → Bool := fun j => Nat.ble ns j || (Nat.blt j np && !memN j reb)
section
variable {Γ : Ctx} {dp : Bool} {W : Wd} {E : List (Addr × Nat × Addr)} {Wx : WX} {r r0 r1 r2 r3 r4 r5 r6 : Wr} {σV : L2.St} {H : Hp} {Q : VK} {D : Ends} {n : Nat} {fx : Nat → Bool} {Dp : Post}
/-- the arguments behind a body -/
theorem outs_ex {reb : List Nat} {F : Addr → Prop} {H : Hp} {np : Nat} (er : ER W E r) (kF : ∀ a, F a → r.F a) (kH : ∀ a o, F a → H a = some o → r.H a = some o) : ∀ {ms : List M} {vs : List V} {fps : List (List Addr)} {j : Nat} {K : List M → Prop}, RL W F H ms vs fps → j + ms.length ≤ np → rebOk reb j ms = true →
    (∀ i v, memN (j + i) reb = false → vs[i]? = some v → r.w[j + i]? = some (some v)) → outsW reb r.σ j ms K →
    ∃ outs fos, K outs ∧ RL W r.F r.H outs vs fos ∧ (∀ a ∈ fos.flatten, ∃ i fp, i < np ∧ j ≤ i ∧ memN i reb = false ∧ r.fps[i]? = some fp ∧ a ∈ fp) ∧ fos.flatten.Nodup ∧ ∀ i, i < ms.length → memN (j + i) reb = false → ∃ o, outs[i]? = some o ∧ r.σ[j + i]? = some (some (.v o))
  | [], _, _, j, K, .nil, _, _, _, g => ⟨[], [], g, .nil, by simp, by simp, by simp⟩
  | m :: ms, _, _, j, K, .cons (v := v) (vs := vs) (fp := fp) (fps := fps) q t, hl, hr, hw, g => by
    simp only [rebOk, Bool.and_eq_true] at hr
    have hl' : j + 1 + ms.length ≤ np := by simp at hl; omega
    have hw' : ∀ i v, memN (j + 1 + i) reb = false → vs[i]? = some v → r.w[j + 1 + i]? = some (some v) := fun i v h1 h2 => by
      have := hw (i + 1) v (by rw [show j + (i + 1) = j + 1 + i by omega]; exact h1) (by simpa using h2)
      rw [show j + (i + 1) = j + 1 + i by omega] at this
      exact this
    cases z : memN j reb with
    | true =>
      unfold outsW at g
      rw [z] at g
      obtain ⟨outs, fos, k, rl, mem, nd, at_⟩ := outs_ex er kF kH t hl' hr.2 hw' g
      have hf : m.isFz = true := by
        have := hr.1
        rw [z] at this
        simpa using this
      have := q.fz_nil hf
      subst this
      refine ⟨m :: outs, [] :: fos, k, .cons (q.keep kF kH (by simp)) rl, fun a ha => ?_, by simpa using nd, fun i hi h => ?_⟩
      · obtain ⟨i, f, a1, a2, a3⟩ := mem a (by simpa using ha)
        exact ⟨i, f, a1, by omega, a3⟩
      · cases i with
        | zero => rw [show j + 0 = j from rfl, z] at h; cases h
        | succ i =>
          obtain ⟨o, h1, h2⟩ := at_ i (by simp at hi; omega) (by rw [show j + 1 + i = j + (i + 1) by omega]; exact h)
          exact ⟨o, by simpa using h1, by rw [show j + (i + 1) = j + 1 + i by omega]; exact h2⟩
    | false =>
      unfold outsW at g
      rw [z] at g
      obtain ⟨s, es, g⟩ := nthW_ex (show nthW r.σ j _ from g)
      cases s with
      | v o =>
        obtain ⟨outs, fos, k, rl, mem, nd, at_⟩ := outs_ex er kF kH t hl' hr.2 hw' g
        obtain ⟨v', f0, e1, hf, rm⟩ := er.slV es
        have e2 := hw 0 v (by simpa using z) rfl
        rw [show j + 0 = j from rfl, e1] at e2
        cases e2
        refine ⟨o :: outs, f0 :: fos, k, .cons rm rl, fun a ha => ?_, ?_, fun i hi h => ?_⟩
        · rw [List.flatten_cons] at ha
          rcases List.mem_append.mp ha with y | y
          · exact ⟨j, f0, by simp at hl; omega, Nat.le_refl _, z, hf, y⟩
          · obtain ⟨i, f, a1, a2, a3⟩ := mem a y
            exact ⟨i, f, a1, by omega, a3⟩
        · rw [List.flatten_cons]
          refine List.nodup_append.mpr ⟨?_, nd, fun a ha b hb e => ?_⟩
          · obtain ⟨oth, p, _⟩ := flat_set hf
            exact (List.nodup_append.mp (perm_nodup p.symm er.nd)).2.1
          · subst e
            obtain ⟨i, f, a1, a2, a3, a4, a5⟩ := mem a hb
            exact flat_apart er.nd hf a4 (by omega) ha a5
        · cases i with
          | zero => exact ⟨o, rfl, es⟩
          | succ i =>
            obtain ⟨o', h1, h2⟩ := at_ i (by simp at hi; omega) (by rw [show j + 1 + i = j + (i + 1) by omega]; exact h)
            exact ⟨o', by simpa using h1, by rw [show j + (i + 1) = j + 1 + i by omega]; exact h2⟩
      | _ => exact g.elim
theorem nones_is : ∀ {n : Nat} {K : QL.Env → Prop}, nonesW n K → K (List.replicate n none)
  | 0, _, h => h
  | n + 1, K, h => by
    have := nones_is (n := n) (K := fun r => K (none :: r)) h
    exact this
theorem start_is : ∀ {ms : List M} {n : Nat} {K : QL.Env → Prop}, startW ms n K → K (ms.map (fun m => some (.v m)) ++ List.replicate n none)
  | [], n, K, h => nones_is h
  | m :: r, n, K, h => start_is (ms := r) (K := fun σ => K (some (.v m) :: σ)) h
theorem RL.lenE {F : Addr → Prop} {H : Hp} : ∀ {ms : List M} {vs : List V} {fps : List (List Addr)}, RL W F H ms vs fps → ms.length = vs.length ∧ fps.length = vs.length
  | _, _, _, .nil => ⟨rfl, rfl⟩
  | _, _, _, .cons _ t => by obtain ⟨a, b⟩ := RL.lenE t; exact ⟨by simp [a], by simp [b]⟩
theorem RL.at {F : Addr → Prop} {H : Hp} : ∀ {ms : List M} {vs : List V} {fps : List (List Addr)} {i : Nat} {m : M}, RL W F H ms vs fps → ms[i]? = some m → ∃ v fp, vs[i]? = some v ∧ fps[i]? = some fp ∧ RM W F H m v fp
  | _, _, _, _, _, .nil, h => by simp at h
  | _, _, _, 0, _, .cons r _, h => by simp at h; subst h; exact ⟨_, _, rfl, rfl, r⟩
  | _, _, _, i + 1, m, .cons _ t, h => by
    obtain ⟨v, fp, a, b, c⟩ := RL.at (i := i) (m := m) t (by simpa using h)
    exact ⟨v, fp, by simpa using a, by simpa using b, c⟩
/-- the moment at a def's start -/
theorem start_er {F : Addr → Prop} {ms : List M} {vs : List V} {fps : List (List Addr)} {k : Nat} (df : ∀ a, F a → H a ≠ none) (rl : RL W F H ms vs fps) (nd : fps.flatten.Nodup) (nf : ∀ a ∈ fps.flatten, ¬ F a) :
    ER W [] ⟨F, H, ms.map (fun m => some (.v m)) ++ List.replicate k none, vs.map some ++ List.replicate k none, fps ++ List.replicate k []⟩ := by
  obtain ⟨l1, l2⟩ := rl.lenE
  have eA : (fps ++ List.replicate k ([] : List Addr)).flatten = fps.flatten := by simp
  refine ⟨by simp [l1], by simp [l1, l2], fun i s e => ?_, ?_, fun a ha => ?_, df, fun a ha => ?_⟩
  · have e : (ms.map (fun m => some (SV.v m)) ++ List.replicate k none)[i]? = some (some s) := e
    by_cases hi : i < ms.length
    · rw [List.getElem?_append_left (by simpa using hi), List.getElem?_map] at e
      cases em : ms[i]? with
      | none => rw [em] at e; cases e
      | some m =>
        rw [em] at e
        cases e
        obtain ⟨v, fp, h1, h2, rm⟩ := rl.at em
        refine ⟨v, fp, ?_, ?_, rm⟩
        · show (vs.map some ++ _)[i]? = _
          rw [List.getElem?_append_left (by simp; omega), List.getElem?_map, h1]; rfl
        · show (fps ++ _)[i]? = _
          rw [List.getElem?_append_left (by omega)]; exact h2
    · rw [List.getElem?_append_right (by simpa using hi), List.getElem?_replicate] at e
      split at e <;> cases e
  · show ((fps ++ List.replicate k ([] : List Addr)).flatten).Nodup
    rw [eA]; exact nd
  · exact nf a (by rw [← eA]; exact ha)
  · exact rl.there a (by rw [← eA]; exact ha)
theorem start_ok {fn : Fn} {vs : List V} {Ex : XK} {N : List Str} (hN : N.length = fn.ns) (hp : fn.np ≤ fn.ns) (h : spD W (runW Γ fn) vs H Q Ex) :
    vs.length = fn.np ∧ tSs Γ fn.dp W [] (fun cls d _ H => Ex cls d H) (fxOf fn.np fn.reb fn.ns) fn.body { nx := fun _ H' => Q .non H', rt := Q } (L2.start N vs) H := by
  obtain ⟨F, ms, fps, K, X, df, rl, nd, nf, g, hK, hX⟩ := h
  unfold runW at g
  split at g
  · rename_i hh
    rw [Bool.and_eq_true] at hh
    have hl := Nat.eq_of_beq_eq_true hh.1
    obtain ⟨l1, l2⟩ := rl.lenE
    refine ⟨by omega, ?_⟩
    have g := start_is g
    have er0 := start_er (k := fn.ns - fn.np) df rl nd nf
    have eS : L2.start N vs = vs.map some ++ List.replicate (fn.ns - fn.np) none := by
      unfold L2.start
      rw [hN, show vs.length = fn.np by omega]
    have e0 : (⟨F, H, ms.map (fun m => some (SV.v m)) ++ List.replicate (fn.ns - fn.np) none, vs.map some ++ List.replicate (fn.ns - fn.np) none, fps ++ List.replicate (fn.ns - fn.np) []⟩ : Wr).A = fps.flatten := by simp [Wr.A]
    generalize hr : (⟨F, H, ms.map (fun m => some (SV.v m)) ++ List.replicate (fn.ns - fn.np) none, vs.map some ++ List.replicate (fn.ns - fn.np) none, fps ++ List.replicate (fn.ns - fn.np) []⟩ : Wr) = r0 at er0 e0
    have r0F : r0.F = F := by rw [← hr]
    have r0H : r0.H = H := by rw [← hr]
    have r0w : r0.w = vs.map some ++ List.replicate (fn.ns - fn.np) none := by rw [← hr]
    have r0σ : r0.σ = ms.map (fun m => some (.v m)) ++ List.replicate (fn.ns - fn.np) none := by rw [← hr]
    refine ⟨r0, r0H, er0, ⟨by rw [eS, r0w]; exact Nat.le_refl _, fun i v _ e => by rw [eS, ← r0w]; exact e⟩, _, by rw [r0σ]; exact g, ?_⟩
    -- a body's end
    have fin : ∀ {σ' : QL.Env} {r' : Wr} {fp : List Addr} {K1 : List M → Prop}, outsW fn.reb σ' 0 ms K1 → r'.σ = σ' → LatF W [] (fxOf fn.np fn.reb fn.ns) r0 r' fp →
        ∃ outs fos, K1 outs ∧ RL W r'.F r'.H outs vs fos ∧ (∀ a ∈ fos.flatten, ∃ i f, i < fn.np ∧ memN i fn.reb = false ∧ r'.fps[i]? = some f ∧ a ∈ f) ∧ fos.flatten.Nodup ∧ ∀ i, i < fn.np → memN i fn.reb = false → ∃ o v, outs[i]? = some o ∧ vs[i]? = some v ∧ r'.σ[i]? = some (some (.v o)) ∧ r'.w[i]? = some (some v) := fun {σ' r' fp K1} o e l => by
      subst e
      have hw : ∀ i v, memN (0 + i) fn.reb = false → vs[i]? = some v → r'.w[0 + i]? = some (some v) := fun i v h1 h2 => by
        rw [Nat.zero_add] at h1 ⊢
        have hi := (List.getElem?_eq_some_iff.mp h2).1
        rw [l.ws i (by
          unfold fxOf
          rw [h1, show Nat.blt i fn.np = true from Nat.ble_eq_true_of_le (by omega)]
          simp), r0w, List.getElem?_append_left (by simpa using hi), List.getElem?_map, h2]
        rfl
      obtain ⟨outs, fos, k, rlo, mem, ndo, at_⟩ := outs_ex (np := fn.np) l.er (fun a f => l.st.f a (by rw [r0F]; exact f)) (fun a o f e => l.st.k a o (by rw [r0H]; exact e) (er0.nfA a (by rw [r0F]; exact f))) rl (by omega) hh.2 hw o
      refine ⟨outs, fos, k, rlo, fun a ha => ?_, ndo, fun i hi hm => ?_⟩
      · obtain ⟨i, f, a1, _, a2⟩ := mem a ha
        exact ⟨i, f, a1, a2⟩
      · obtain ⟨o, h1, h2⟩ := at_ i (by omega) (by rw [Nat.zero_add]; exact hm)
        rw [Nat.zero_add] at h2
        have hv : i < vs.length := by omega
        refine ⟨o, vs[i], h1, List.getElem?_eq_getElem hv, h2, ?_⟩
        have := hw i vs[i] (by rw [Nat.zero_add]; exact hm) (List.getElem?_eq_getElem hv)
        rw [Nat.zero_add] at this
        exact this
    have aft : ∀ {r' : Wr} {fp fq : List Addr} {fos : List (List Addr)}, LatF W [] (fxOf fn.np fn.reb fn.ns) r0 r' fp → (∀ a ∈ fos.flatten, ∃ i f, i < fn.np ∧ memN i fn.reb = false ∧ r'.fps[i]? = some f ∧ a ∈ f) → fos.flatten.Nodup → fq.Nodup → (∀ a ∈ fq, a ∈ r'.A ++ fp) → (∀ a ∈ fos.flatten, a ∉ fq) → Aft F H fps.flatten r'.F r'.H (fos.flatten ++ fq) := fun {r' fp fq fos} l mem ndo ndq sub dis => by
      have inA : ∀ a ∈ fos.flatten ++ fq, a ∈ r'.A ++ fp := fun a ha => by
        rcases List.mem_append.mp ha with z | z
        · obtain ⟨i, f, _, _, h1, h2⟩ := mem a z
          exact List.mem_append_left _ (mem_flat h1 h2)
        · exact sub a z
      refine ⟨?_, List.nodup_append.mpr ⟨ndo, ndq, fun a ha b hb e => by subst e; exact dis a ha hb⟩, fun a ha => ?_, l.er.df⟩
      · have := l.st.sub inA
        rw [r0F, r0H, e0] at this
        exact this
      · rcases List.mem_append.mp (inA a ha) with z | z
        · exact l.er.nf a z
        · exact l.sep.nf a z
    refine ⟨fun σ' hn r' e l σV p hl => ?_, fun sv σ' hn r' v fp e l q => ?_, fun σ' hn => hn.elim, fun σ' hn => hn.elim, fun c m σ' hn r' fp d pv e l fd hd rm C hC σV p hl => ?_⟩
    · obtain ⟨outs, fos, k, rlo, mem, ndo, _⟩ := fin (show outsW fn.reb σ' 0 ms fun outs => K (.v (.dat .none)) outs from hn) e (l.transF (Nx.latF (.here l.er (.nil l.er))))
      exact hK _ _ k r'.F r'.H fos .non [] (aft (l.transF (Nx.latF (.here l.er (.nil l.er)))) mem ndo .nil (by simp) (by simp)) rlo (RM.dat .none)
    · obtain ⟨outs, fos, k, rlo, mem, ndo, at_⟩ := fin (show outsW fn.reb σ' 0 ms _ from hn) e l
      subst e
      cases sv with
      | v m =>
        refine hK _ _ k r'.F r'.H fos v fp (aft l mem ndo l.sep.ndF (fun a ha => List.mem_append_right _ ha) fun a ha z => ?_) rlo q
        obtain ⟨i, f, _, _, h1, h2⟩ := mem a ha
        exact l.sep.apart a z (mem_flat h1 h2)
      | al i p =>
        obtain ⟨rfl, m, v0, c, e1, e2, e3, wk⟩ := id q
        cases z : (Nat.blt i fn.np && !memN i fn.reb) with
        | true =>
          have k : K (.al i p) outs := by
            have k : (match (Nat.blt i fn.np && !memN i fn.reb) with | true => K (.al i p) outs | false => getW r'.σ (.al i p) fun m => K (.v m) outs) := k
            rw [z] at k; exact k
          rw [Bool.and_eq_true] at z
          have hm : memN i fn.reb = false := by simpa using z.2
          obtain ⟨o, v1, h1, h2, h3, h4⟩ := at_ i (Nat.le_of_ble_eq_true z.1) hm
          rw [e1] at h3; cases h3
          rw [e2] at h4; cases h4
          exact hK _ _ k r'.F r'.H fos v [] (aft l mem ndo .nil (by simp) (by simp)) rlo ⟨rfl, m, v0, c, h1, h2, e3, wk⟩
        | false =>
          have k : getW r'.σ (.al i p) fun m => K (.v m) outs := by
            have k : (match (Nat.blt i fn.np && !memN i fn.reb) with | true => K (.al i p) outs | false => getW r'.σ (.al i p) fun m => K (.v m) outs) := k
            rw [z] at k; exact k
          obtain ⟨s, es, k⟩ := nthW_ex (show nthW r'.σ i _ from k)
          rw [e1] at es; cases es
          obtain ⟨c', e4, k⟩ := atW_ex k
          rw [e3] at e4; cases e4
          obtain ⟨v1, f0, h1, h2, rm⟩ := l.er.slV e1
          rw [e2] at h1; cases h1
          obtain ⟨u, fq, rest, w1, rc, pm, _⟩ := rm.path e3
          cases wk.inj w1
          have ndf0 : f0.Nodup := by
            obtain ⟨oth, p, _⟩ := flat_set h2
            exact (List.nodup_append.mp (perm_nodup p.symm l.er.nd)).2.1
          have inf : ∀ a ∈ fq, a ∈ f0 := fun a ha => pm.mem_iff.mpr (List.mem_append_right _ ha)
          refine hK _ _ k r'.F r'.H fos v fq (aft l mem ndo (List.nodup_append.mp (perm_nodup pm.symm ndf0)).2.1 (fun a ha => List.mem_append_left _ (mem_flat h2 (inf a ha))) fun a ha y => ?_) rlo rc
          obtain ⟨j, f, hj1, hj2, h3, h4⟩ := mem a ha
          have ne : j ≠ i := fun e => by
            subst e
            rw [hj2, show Nat.blt j fn.np = true from Nat.ble_eq_true_of_le hj1] at z
            cases z
          exact flat_apart l.er.nd h3 h2 ne h4 (inf a y)
      | _ => exact (show False from k).elim
    · obtain ⟨outs, fos, k, rlo, mem, ndo, _⟩ := fin (show outsW fn.reb σ' 0 ms fun outs => X c m outs from hn) e l
      refine hX _ _ _ k r'.F r'.H fos d pv fp (aft l mem ndo l.sep.ndF (fun a ha => List.mem_append_right _ ha) fun a ha z => ?_) rlo fd hd rm C hC
      obtain ⟨i, f, _, _, h1, h2⟩ := mem a ha
      exact l.sep.apart a z (mem_flat h1 h2)
  · exact g.elim
end
end QL
end
section
set_option linter.all false
set_option maxRecDepth 100000
set_option maxHeartbeats 1000000
/-! SF2: a def's promise where no guard is set; calls. -/
namespace QL
open PySem PySem.Spec PyProof.Rows L2

/-- a def's promise, asked where no guard is set -/
structure FnG (P : Program) (w : World) (K : PySem.W.Frag) (mg : Str → Option Value) (base : Heap) (k : Nat) (f : Addr) (fd : FuncData) (ps : List Str) (sp : Sp) : Prop where
  len : ∀ vs H Q E, sp vs H Q E → vs.length = ps.length
  run : ∀ (A : Around) (out : List PySem.Env) (s : Shared) (H : Hp) (args : Args) (us : List Value) (vs : List V) (Q : VK) (E : XK), A.guards = some [] → Room k A → Env0 P w K mg base A out s H → BindsTo s fd args (ps.zip us) → Vals vs us → sp vs H Q E →
    codeAny (model P w) A (.call (.ref f) args) (CR (L2.CX P w) out P w H s Q E) s
section
variable {P : Program} {w : World} {K : PySem.W.Frag} {mg : Str → Option Value} {base : Heap} {k : Nat} {f : Addr} {name qual : Str} {params : Arguments} {body : List Stmt} {scope : Scope} {dV kV doc pm cdv ct oc : Value} {an od : Option Addr} {osl : Array (Option Value)} {N ps : List Str} {sp : Sp}
theorem deeper_guards {A : Around} {e : PySem.Env} : (A.deeper e).guards = A.guards := rfl
theorem in1_guards {A : Around} : A.in1.guards = A.guards := rfl
theorem mark_guards {A : Around} {v : Option Value} : (A.mark v).guards = A.guards := rfl
theorem make_guards {A : Around} {C : Addr} {us : List Value} {kw : List (Str × Value)} : (A.under (.builtin "type.__call__" ⟨.ref C :: us, kw⟩)).guards = A.guards := by
  first | rfl | simp [Around.under, Code.guards, Code.isGuard, guardIds, pushGuards]
theorem fn_G (hl : K.lookup f = some ⟨oc, od, .func (PySem.W.fnOf name qual params body scope dV kV doc pm an cdv ct), osl⟩) (hc : PySem.W.codeIn K cdv qual = true) (sc : FnScope N ps scope) (len : ∀ vs H Q E, sp vs H Q E → vs.length = ps.length)
    (main : ∀ (A : Around) (out : List PySem.Env) (s : Shared) (H : Hp) (vs : List V) (Q : VK) (E : XK), A.guards = some [] → Room k (A.deeper (envOfC qual scope s.heap.objs.size f cdv)) → sp vs H Q E →
      ∃ t, PSs (cxOf (L2.CX P w) P w K mg base N qual scope f cdv A out s H E) body t ∧ t { nx := fun _ H' => Q .non H', rt := Q } (L2.start N vs) H) :
    FnG P w K mg base (k + 1) f (PySem.W.fnOf name qual params body scope dV kV doc pm an cdv ct) ps sp := by
  refine ⟨len, fun A out s H args us vs Q E hg room e0 bind vals hsp => ?_⟩
  have lenV := len _ _ _ _ hsp
  have keepB : ∀ b o, base.get? b = some o → s.heap.get? b = some o := fun b o e => (e0.bs b o e).1
  have kindP : ∀ y ∈ ps.zip us, scope.names.lookup y.1 = some .local ∨ (scope.names.lookup y.1 = some .cell ∧ ((cellsFrom (s.heap.objs.size + 1) scope.names []).lookup y.1).isSome = true) := fun y hy => by
    rcases sc.par y.1 (List.of_mem_zip (a := y.1) (b := y.2) hy).1 with z | z
    · exact Or.inl z
    · exact Or.inr ⟨z, PySem.W.cellsFrom_some _ _ _ (Or.inl z)⟩
  refine codeAny_call_function room.depth ((e0.mod.kin.keeps keepB) _ _ hl) rfl sc.co sc.gen rfl (PySem.W.codeRec_of (e0.mod.kin.keeps keepB) hc) (bind _ _ _ _ ?_)
  refine wpAny_newFunctionEnv_cells sc.kind kindP fun env1 eenv s1 inc => ?_
  subst eenv
  refine ⟨(e0.mod.nolimit.keeps keepB).keeps inc.toInCall.keep, codeAny_func ?_⟩
  obtain ⟨t, rule, read⟩ := main A out s H vs Q E hg (room.deeper _) hsp
  refine wpAny_mono (rule.run [] s1 (L2.start N vs) H _ (inv_start sc room.hd e0 lenV vals inc) read) (fun fl s2 hs => ?_) fun _ _ hs => hs
  cases fl with
  | ret u =>
    obtain ⟨v, σ2, H2, J, rv, q⟩ := hs
    exact ⟨v, H2, J.os, J.bare, J.base, J.hok, rv, q⟩
  | next =>
    obtain ⟨σ2, H2, J, q⟩ := hs
    exact ⟨V.non, H2, J.os, J.bare, J.base, J.hok, rfl, q⟩
  | brk => exact (hs.choose_spec.choose_spec.2).elim
  | cont => exact (hs.choose_spec.choose_spec.2).elim
end

/-- a context that runs -/
structure XB (W : Wd) (X : Cx) : Prop where
  hK : X.K = W.K
  nd : X.N.Nodup
  gu : X.A.guards = some []
  un : X.A.units + 67 < cLine
/-- .. that may call, raise -/
structure XC (W : Wd) (Wx : WX) (X : Cx) (k : Nat) : Prop extends XB W X where
  rm : Room k X.A
  cm : X.calm = true
  po : PassesOwn (model X.prog X.w) X.A X.env X.xe
  tk : Takes X Wx

section
variable {X : Cx} {k : Nat} {f C : Addr} {fd : FuncData} {ps : List Str} {sp : Sp} {E : L2.St → XK} {x m : Str} {p pos apos : Pos} {e o : Expr} {es : List Expr} {ta : TE} {t : TA}
/-- the callee runs, where the caller is at A (its own, or one step in) -/
theorem runG {pins : List (Addr × Obj)} {σ : L2.St} {H : Hp} {s : Shared} {Q : VK} {us : List Value} {vs : List V} {Ex : XK} {A : Around} (F : FnG X.prog X.w X.K X.mg X.base k f fd ps sp) (hr : Room k A) (hg : A.guards = some []) (e0 : Env0 X.prog X.w X.K X.mg X.base A X.stack s H) (hb : Binds X.K fd ps []) (hx : PassesAt (L2.CX X.prog X.w) X σ Ex)
    (I : Inv X pins σ H s) (r : Vals vs us) (h : sp vs H Q Ex) : wpAny (model X.prog X.w) A (call (.ref f) us) (EP X pins σ Q) X.xe s := by
  have hl : us.length = ps.length := by rw [← r.length]; exact F.len _ _ _ _ h
  have b := hb s us I.kIn (by rw [List.append_nil]; exact hl)
  rw [List.append_nil] at b
  refine wpAny_call (codeAny_mono (F.run A X.stack s H ⟨us, []⟩ us vs Q Ex hg hr e0 b r h) fun res s2 hq => ?_)
  cases res with
  | error er => exact hx pins H s er s2 I hq
  | ok fl =>
    cases fl with
    | ret u => exact I.after hq
    | _ => exact False.elim hq
theorem r_call (F : FnG X.prog X.w X.K X.mg X.base k f fd ps sp) (hr : Room k X.A) (gu : X.A.guards = some []) (hg : Gl X x) (hm : X.mg x = some (.ref f)) (hk : PySem.W.keepIn X.K (.ref f) = true) (hb : Binds X.K fd ps []) (hx : ∀ σ, PassesAt (L2.CX X.prog X.w) X σ (E σ))
    (ha : PA X (e :: es) t) (hdb : (x == ("__debug__" : Str)) = false := by decide) (he : starEach (e :: es) X.env = (false, eval e X.env) :: starEach es X.env := by rfl) (hpl : (backTo pos (starEach es X.env)).any (·.1) = false := by rfl) :
    PE X (.Call (.Name x p) (e :: es) [] pos) (tCallS sp E t) := by
  refine ⟨fun pins s σ H Q I h => ?_⟩
  refine wpAny_Call_Name_kw (ld_glob I hg hm ?_ hdb)
  refine PySem.W.callWith_K (h₀ := X.base) I.ok.mod.kin hk (thn (ha.run pos pins s σ H _ I h) fun vals1 s1 ⟨vs, H1, I1, r, q⟩ => ⟨I1.kIn, ?_⟩) he hpl
  exact runG F hr gu I1.env0 hb (hx σ) I1 r q
theorem r_call0 (F : FnG X.prog X.w X.K X.mg X.base k f fd ps sp) (hr : Room k X.A) (gu : X.A.guards = some []) (hg : Gl X x) (hm : X.mg x = some (.ref f)) (hk : PySem.W.keepIn X.K (.ref f) = true) (hb : Binds X.K fd ps []) (hx : ∀ σ, PassesAt (L2.CX X.prog X.w) X σ (E σ))
    (hdb : (x == ("__debug__" : Str)) = false := by decide) : PE X (.Call (.Name x p) [] [] pos) (tCallS sp E tNil) := by
  refine ⟨fun pins s σ H Q I h => ?_⟩
  refine wpAny_Call_Name_kw (ld_glob I hg hm ?_ hdb)
  exact PySem.W.callWith_K0 I.kIn hk (runG (us := []) F hr gu I.env0 hb (hx σ) I .nil h)
/-- an instance made: __init__ at the new instance -/
def mkSp (C : Addr) (sp : Sp) (vs : List V) (H : Hp) (Q : VK) (Ex : XK) : Prop := ∀ x dx, H x = none → H dx = none → dx ≠ x → sp (.ref x :: vs) (upd (upd H dx (.own x)) x (.ins C dx [])) (fun v H2 => v = .non ∧ Q (.ref x) H2) Ex
theorem runMk {pins : List (Addr × Obj)} {σ : L2.St} {H : Hp} {s : Shared} {Q : VK} {us : List Value} {kws : List (Str × Value)} {Ex : XK} {us2 : List Value} {vs2 : List V} (M : Mk X.K C f) (F : FnG X.prog X.w X.K X.mg X.base k f fd ps sp) (hr : Room (k + 1) X.A) (gu : X.A.guards = some [])
    (hb : ∀ (s : Shared) (y : Value), X.K.In s.heap → us2.length + 1 = ps.length → BindsTo s fd ⟨y :: us, kws⟩ (ps.zip (y :: us2))) (hx : PassesAt (L2.CX X.prog X.w) X σ Ex) (I : Inv X pins σ H s) (r : Vals vs2 us2) (h : mkSp C sp vs2 H Q Ex) :
    wpAny (model X.prog X.w) X.A (call (.ref C) us kws) (EP X pins σ Q) X.xe s := by
  have hq := h (s.heap.objs.size + 1) s.heap.objs.size (I.hok.fresh (Nat.le_succ _)) (I.hok.fresh (Nat.le_refl _)) (Nat.ne_of_lt (Nat.lt_succ_self _))
  have I2 := Inv.made (C := C) I
  have r2 : Vals (V.ref (s.heap.objs.size + 1) :: vs2) (Value.ref (s.heap.objs.size + 1) :: us2) := .cons rfl r
  refine wpAny_call (make_map (f := f) I.kIn M.makes M.init (beq_iff_eq.mp M.fn) (codeAny_mono (F.run _ X.stack _ _ ⟨Value.ref (s.heap.objs.size + 1) :: us, kws⟩ (Value.ref (s.heap.objs.size + 1) :: us2) _ _ Ex (by rw [make_guards]; exact gu) (hr.make C us kws)
    (I2.env0.make C us kws) (hb _ _ I2.kIn (by have l1 := F.len _ _ _ _ hq; have l2 := r.length; simp at l1; omega)) r2 hq) fun res s2 z => ?_))
  cases res with
  | error er => exact hx pins _ _ er s2 I2 z
  | ok fl =>
    cases fl with
    | ret u =>
      obtain ⟨v, H3, I3, rv, ev, q3⟩ := I2.after z
      subst ev
      exact ⟨rv, ⟨V.ref (s.heap.objs.size + 1), H3, I3, rfl, q3⟩⟩
    | _ => exact False.elim z
theorem r_make (M : Mk X.K C f) (F : FnG X.prog X.w X.K X.mg X.base k f fd ps sp) (hr : Room (k + 1) X.A) (gu : X.A.guards = some []) (hg : Gl X x) (hm : X.mg x = some (.ref C)) (hb : Binds X.K fd ps []) (hx : ∀ σ, PassesAt (L2.CX X.prog X.w) X σ (E σ))
    (ha : PA X (e :: es) t) (hdb : (x == ("__debug__" : Str)) = false := by decide) (he : starEach (e :: es) X.env = (false, eval e X.env) :: starEach es X.env := by rfl) (hpl : (backTo pos (starEach es X.env)).any (·.1) = false := by rfl) :
    PE X (.Call (.Name x p) (e :: es) [] pos) (fun σ H Q => t σ H fun vs H1 => mkSp C sp vs H1 Q (E σ)) := by
  refine ⟨fun pins s σ H Q I h => ?_⟩
  refine wpAny_Call_Name_kw (ld_glob I hg hm ?_ hdb)
  refine PySem.W.callWith_K (h₀ := X.base) I.ok.mod.kin M.kp (thn (ha.run pos pins s σ H _ I h) fun vals1 s1 ⟨vs, H1, I1, r, q⟩ => ⟨I1.kIn, ?_⟩) he hpl
  refine runMk (us2 := vals1) M F hr gu (fun s2 y k2 lv => ?_) (hx σ) I1 r q
  have b := hb s2 (y :: vals1) k2 (by rw [List.append_nil, List.length_cons]; exact lv)
  rw [List.append_nil] at b
  exact b
/-- some of a list, in another order -/
def pk {α : Type} (perm : List Nat) (l : List α) : List α := perm.filterMap fun i => l[i]?
theorem pk_cons {α : Type} (i : Nat) (perm : List Nat) (l : List α) : pk (i :: perm) l = (match l[i]? with | some a => a :: pk perm l | none => pk perm l) := by
  unfold pk
  rw [List.filterMap_cons]
  cases l[i]? <;> rfl
theorem pk_vals {zs : List V} {ws : List Value} (h : Vals zs ws) : ∀ perm : List Nat, Vals (pk perm zs) (pk perm ws)
  | [] => .nil
  | i :: perm => by
    rw [pk_cons, pk_cons]
    have ih := pk_vals h perm
    cases e : zs[i]? with
    | none =>
      have : ws[i]? = none := by
        rw [List.getElem?_eq_none_iff] at e ⊢
        rw [← h.length]; exact e
      rw [this]
      exact ih
    | some v =>
      obtain ⟨u, eu, ru⟩ := h.get e
      rw [eu]
      exact .cons ru ih
/-- C(k = v, ..) -/
theorem r_makeK {ks : List Str} {perm : List Nat} {kws : List Keyword} {tk : TA} (M : Mk X.K C f) (F : FnG X.prog X.w X.K X.mg X.base k f fd ps sp) (hr : Room (k + 1) X.A) (gu : X.A.guards = some []) (hg : Gl X x) (hm : X.mg x = some (.ref C))
    (hb : ∀ (s : Shared) (y : Value) (ws : List Value), ws.length = ks.length → BindsTo s fd ⟨[y], ks.zip ws⟩ (ps.zip (y :: pk perm ws))) (hx : ∀ σ, PassesAt (L2.CX X.prog X.w) X σ (E σ)) (hkw : PK X kws tk)
    (hall : (backToKw pos (keywordEach kws X.env)).all (·.1.isSome) = true := by rfl) (hks : (backToKw pos (keywordEach kws X.env)).filterMap (·.1) = ks := by rfl) (hdb : (x == ("__debug__" : Str)) = false := by decide)
    (hpl : ((backTo pos (starEach [] X.env)).any (·.1) || (backToKw pos (keywordEach kws X.env)).any (·.1.isNone)) = false := by rfl) :
    PE X (.Call (.Name x p) [] kws pos) (fun σ H Q => tk σ H fun zs H1 => zs.length = ks.length ∧ mkSp C sp (pk perm zs) H1 Q (E σ)) := by
  refine ⟨fun pins s σ H Q I h => ?_⟩
  refine wpAny_Call_Name_kw (ld_glob I hg hm ?_ hdb)
  refine PySem.W.callWith_KW0 (h₀ := X.base) I.ok.mod.kin M.kp hall ?_ hpl
  refine thn (hkw.run pos pins s σ H _ I h) fun ws s2 ⟨zs, H2, I2, rz, l1, q2⟩ => ⟨I2.kIn, ?_⟩
  rw [hks]
  exact runMk (us := []) (us2 := pk perm ws) M F hr gu (fun s3 y _ _ => hb s3 y ws (rz.length.symm.trans l1)) (hx σ) I2 (pk_vals rz perm) q2
/-- f(k = v, ..) -/
theorem r_callK {ks : List Str} {perm : List Nat} {kws : List Keyword} {tk : TA} (F : FnG X.prog X.w X.K X.mg X.base k f fd ps sp) (hr : Room k X.A) (gu : X.A.guards = some []) (hg : Gl X x) (hm : X.mg x = some (.ref f)) (hk : PySem.W.keepIn X.K (.ref f) = true)
    (hb : ∀ (s : Shared) (ws : List Value), ws.length = ks.length → BindsTo s fd ⟨[], ks.zip ws⟩ (ps.zip (pk perm ws))) (hx : ∀ σ, PassesAt (L2.CX X.prog X.w) X σ (E σ)) (hkw : PK X kws tk)
    (hall : (backToKw pos (keywordEach kws X.env)).all (·.1.isSome) = true := by rfl) (hks : (backToKw pos (keywordEach kws X.env)).filterMap (·.1) = ks := by rfl) (hdb : (x == ("__debug__" : Str)) = false := by decide)
    (hpl : ((backTo pos (starEach [] X.env)).any (·.1) || (backToKw pos (keywordEach kws X.env)).any (·.1.isNone)) = false := by rfl) :
    PE X (.Call (.Name x p) [] kws pos) (fun σ H Q => tk σ H fun zs H1 => zs.length = ks.length ∧ sp (pk perm zs) H1 Q (E σ)) := by
  refine ⟨fun pins s σ H Q I h => ?_⟩
  refine wpAny_Call_Name_kw (ld_glob I hg hm ?_ hdb)
  refine PySem.W.callWith_KW0 (h₀ := X.base) I.ok.mod.kin hk hall ?_ hpl
  refine thn (hkw.run pos pins s σ H _ I h) fun ws s2 ⟨zs, H2, I2, rz, l1, q2⟩ => ⟨I2.kIn, ?_⟩
  rw [hks]
  have b := hb s2 ws (rz.length.symm.trans l1)
  have r2 := pk_vals rz perm
  refine wpAny_call (codeAny_mono (F.run X.A X.stack s2 H2 ⟨[], ks.zip ws⟩ (pk perm ws) (pk perm zs) Q (E σ) gu hr I2.env0 b r2 q2) fun res s3 z => ?_)
  cases res with
  | error er => exact hx σ pins H2 s2 er s3 I2 z
  | ok fl =>
    cases fl with
    | ret u => exact I2.after z
    | _ => exact False.elim z
end
end QL
end
section
set_option linter.all false
set_option maxRecDepth 100000
set_option maxHeartbeats 1000000
/-! SF3: the rules for expressions. -/
namespace QL
open PySem PySem.Spec PyProof.Rows L2

section
variable {Γ : Ctx} {dp : Bool} {W : Wd} {En : List (Addr × Nat × Addr)} {Wx : WX} {X : Cx} {k : Nat} {a b c e : Expr} {es : List Expr} {a' b' c' e' : QL.E} {es' : Es} {p pos apos : Pos} {x : Str}
theorem PE.ofL {t t' : TE} (h : PE X e t) (i : ∀ σ H Q, σ.length = X.N.length → t' σ H Q → t σ H Q) : PE X e t' := ⟨fun pins s σ H Q I q => h.run pins s σ H Q I (i σ H Q I.len q)⟩
theorem PS.ofL {st : Stmt} {t t' : TS} (h : PS X st t) (i : ∀ D σ H, σ.length = X.N.length → t' D σ H → t D σ H) : PS X st t' := ⟨fun pins s σ H D I q => h.run pins s σ H D I (i D σ H I.len q)⟩
theorem q_int {i : Int} {j : Nat} : PE X (.Constant (.int i) j p) (tE Γ dp W En Wx (.c (.int i))) := PE.of pe_int fun _ _ _ h => i_c (fun _ _ => .int) h
theorem q_bl {i : Bool} {j : Nat} : PE X (.Constant (.bool i) j p) (tE Γ dp W En Wx (.c (.bool i))) := PE.of pe_bl fun _ _ _ h => i_c (fun _ _ => .bool) h
theorem q_non {j : Nat} : PE X (.Constant .none j p) (tE Γ dp W En Wx (.c .none)) := PE.of pe_non fun _ _ _ h => i_c (fun _ _ => .none) h
theorem q_str {i : Str} {j : Nat} (ok : PyData.strOk i = true := by decide +kernel) (ln : i.length ≤ sizeLine := by decide +kernel) : PE X (.Constant (.str i) j p) (tE Γ dp W En Wx (.c (.str i))) := PE.of pe_str fun _ _ _ h => i_c (fun _ _ => .str ok ln) h
theorem q_gl {v : V} {u : Value} {d : D} (hd : ∀ F H, RD W.K F H d v) (hm : X.mg x = some u) (r : RelV v u) (hg : Gl X x := by rfl) (hdb : (x == ("__debug__" : Str)) = false := by decide) : PE X (.Name x p) (tE Γ dp W En Wx (.c d)) := PE.of (pe_glob hg hm r hdb) fun _ _ _ h => i_c hd h
theorem get_lt {α : Type} {l : List α} {i : Nat} {y : α} (h : l[i]? = some y) : i < l.length := (List.getElem?_eq_some_iff.mp h).1
theorem q_x (i : Nat) (hi : X.N[i]? = some x := by rfl) (hv : Vis X.env.scope x := by first | exact Or.inl rfl | exact Or.inr (Or.inl rfl) | exact Or.inr (Or.inr rfl)) (hd : (x == ("__debug__" : Str)) = false := by decide) (hcd : (x == ("__classdict__" : Str)) = false := by decide) :
    PE X (.Name x p) (tE Γ dp W En Wx (.x i)) := PE.ofL (pe_var hi hv hd hcd) fun σ _ _ hl h => i_x (by rw [hl]; exact get_lt hi) h
theorem q_bin (o : BOp) (B : XB W X) (ha : PE X a (tE Γ dp W En Wx a')) (hb : PE X b (tE Γ dp W En Wx b')) : PE X (.BinOp a (opOf o) b p) (tE Γ dp W En Wx (.bin o a' b')) :=
  PE.of (pe_op (op_bin o) ha hb) fun _ _ _ h => by rw [B.hK]; exact i_bin h
theorem q_neg (ha : PE X a (tE Γ dp W En Wx a')) : PE X (.UnaryOp .USub a p) (tE Γ dp W En Wx (.neg a')) := PE.of (pe_un un_neg ha) fun _ _ _ h => i_neg h
theorem q_nt (B : XB W X) (ha : PE X a (tE Γ dp W En Wx a')) : PE X (.UnaryOp .Not a p) (tE Γ dp W En Wx (.nt a')) := PE.of (pe_notT ha) fun _ _ _ h => by rw [B.hK]; exact i_nt h
theorem q_and (B : XB W X) {rest : List Expr} (ha : PE X a (tE Γ dp W En Wx a')) (hb : PE X (.BoolOp .And (b :: rest) p) (tE Γ dp W En Wx b')) : PE X (.BoolOp .And (a :: b :: rest) p) (tE Γ dp W En Wx (.and a' b')) :=
  PE.of (pe_andT ha hb) fun _ _ _ h => by rw [B.hK]; exact i_and h
theorem q_or (B : XB W X) {rest : List Expr} (ha : PE X a (tE Γ dp W En Wx a')) (hb : PE X (.BoolOp .Or (b :: rest) p) (tE Γ dp W En Wx b')) : PE X (.BoolOp .Or (a :: b :: rest) p) (tE Γ dp W En Wx (.or a' b')) :=
  PE.of (pe_orT ha hb) fun _ _ _ h => by rw [B.hK]; exact i_or h
theorem rOwn_no {E : List (Addr × Nat × Addr)} {o : COp} {v1 v2 : V} {H : Hp} {Q : VK} (hE : ∀ c, Γ.meth c m_eq = none) (h : rOwn Γ W E o v1 v2 H Q) : False := by
  obtain ⟨r, r4, x, y, fx, fy, K, a, b, fa, fb, _, _, _, _, _, _, _, _, _, g, _⟩ := h
  have no : ∀ c x y, ¬ ownEqW Γ o c x y r4.σ K := fun c x y g => by
    unfold ownEqW at g
    rw [hE c] at g
    exact g
  cases z : isIns a with
  | true => rw [z] at g; exact no _ _ _ g
  | false => rw [z] at g; exact no _ _ _ g
theorem op_cmpO {E : List (Addr × Nat × Addr)} (o : COp) (B : XB W X) (hE : ∀ c, Γ.meth c m_eq = none) : OpR X (compareOp (cmpOf o)) (fun x y H Q => rCmp W.K o x y H Q ∨ rOwn Γ W E o x y H Q) := by
  intro pins s σ H x y v u Q I rx ry h
  rcases h with h | h
  · rw [← B.hK] at h
    exact op_cmp (by have := B.un; omega) o pins s σ H x y v u Q I rx ry h
  · exact (rOwn_no hE h).elim
theorem q_cmp (o : COp) (B : XB W X) (hE : ∀ c, Γ.meth c m_eq = none) (ha : PE X a (tE Γ dp W En Wx a')) (hb : PE X b (tE Γ dp W En Wx b')) (hm : behindInMarks (cmpOf o) b = false := by first | exact nobehind _ (by decide) (by decide) | rfl) :
    PE X (.Compare a [cmpOf o] [b] p) (tE Γ dp W En Wx (.cmp o a' b')) := PE.of (pe_cmpR (op_cmpO o B hE) ha hb hm) fun _ _ _ h => i_cmp h
theorem q_cmpT (o : COp) (B : XB W X) (hE : ∀ c, Γ.meth c m_eq = none) (ha : PE X a (tE Γ dp W En Wx a')) (hb : PE X b (tE Γ dp W En Wx b')) (hm : behindInMarks (cmpOf o) b = false := by first | exact nobehind _ (by decide) (by decide) | rfl) :
    PT X (.Compare a [cmpOf o] [b] p) (tT Γ dp W En Wx (.cmp o a' b')) := PT.of (pt_cmpR (op_cmpO o B hE) ha hb hm) fun _ _ _ h => i_cmpT h
theorem op_cmpK (o : COp) (B : XB W X) : OpR X (compareOp (cmpOf o)) (rCmp W.K o) := by
  intro pins s σ H x y v u Q I rx ry h
  rw [← B.hK] at h
  exact op_cmp (by have := B.un; omega) o pins s σ H x y v u Q I rx ry h
theorem q_chain (o o' : COp) (B : XB W X) (ha : PE X a (tE Γ dp W En Wx a')) (hb : PE X b (tE Γ dp W En Wx b')) (hc : PE X c (tE Γ dp W En Wx c')) (hm : lastMarks [cmpOf o, cmpOf o'] [b, c] = false := by with_unfolding_all rfl) :
    PE X (.Compare a [cmpOf o, cmpOf o'] [b, c] p) (tE Γ dp W En Wx (.chain o o' a' b' c')) := PE.of (pe_chain (op_cmpK o B) (op_cmpK o' B) ha hb hc hm) fun _ _ _ h => i_chain h
theorem q_chainT (o o' : COp) (B : XB W X) (ha : PE X a (tE Γ dp W En Wx a')) (hb : PE X b (tE Γ dp W En Wx b')) (hc : PE X c (tE Γ dp W En Wx c')) (hm : lastMarks [cmpOf o, cmpOf o'] [b, c] = false := by with_unfolding_all rfl) :
    PT X (.Compare a [cmpOf o, cmpOf o'] [b, c] p) (tT Γ dp W En Wx (.chain o o' a' b' c')) := PT.of (pt_chain (op_cmpK o B) (op_cmpK o' B) ha hb hc hm) fun _ _ _ h => i_chainT h
/-! #### tests -/
theorem r_tru {t : TE} (h : PE X e t) (hp : ∀ whole, isTrue e X.env whole = (do let v ← whole; standAt e.pos; holding [v] (truthy v))) : PT X e (fun σ H Q => t σ H fun x H' => ∃ k, TruV X.K x H' k ∧ Q k H') := by
  refine ⟨fun pins s σ H Q I q => isTrue_plain (thn (h.run pins s σ H _ I q) fun v s1 ⟨x, H1, I1, r1, q1⟩ => ?_) (hp _)⟩
  exact tru_ok pins s1 σ H1 x v Q I1 r1 q1
theorem q_test (B : XB W X) (he : PE X e (tE Γ dp W En Wx e')) (hp : ∀ whole, isTrue e X.env whole = (do let v ← whole; standAt e.pos; holding [v] (truthy v)) := by intro _; rfl) : PT X e (tT Γ dp W En Wx e') :=
  PT.of (r_tru he hp) fun _ _ _ h => by rw [B.hK]; exact i_test h
theorem q_ntT (ha : PT X a (tT Γ dp W En Wx a')) : PT X (.UnaryOp .Not a p) (tT Γ dp W En Wx (.nt a')) := PT.of (pt_not ha) fun _ _ _ h => i_ntT h
theorem q_and1T (ha : PT X a (tT Γ dp W En Wx a')) : PW X (.BoolOp .And [a] p) (tT Γ dp W En Wx a') := pw_and1 ha
theorem q_or1T (ha : PT X a (tT Γ dp W En Wx a')) : PW X (.BoolOp .Or [a] p) (tT Γ dp W En Wx a') := pw_or1 ha
theorem q_andT {rest : List Expr} (ha : PT X a (tT Γ dp W En Wx a')) (hb : PW X (.BoolOp .And (b :: rest) p) (tT Γ dp W En Wx b')) : PW X (.BoolOp .And (a :: b :: rest) p) (tT Γ dp W En Wx (.and a' b')) := PW.of (pw_and ha hb) fun _ _ _ h => i_andT h
theorem q_orT {rest : List Expr} (ha : PT X a (tT Γ dp W En Wx a')) (hb : PW X (.BoolOp .Or (b :: rest) p) (tT Γ dp W En Wx b')) : PW X (.BoolOp .Or (a :: b :: rest) p) (tT Γ dp W En Wx (.or a' b')) := PW.of (pw_or ha hb) fun _ _ _ h => i_orT h
theorem q_ife (hc : PT X c (tT Γ dp W En Wx c')) (ha : PE X a (tE Γ dp W En Wx a')) (hb : PE X b (tE Γ dp W En Wx b')) : PE X (.IfExp c a b p) (tE Γ dp W En Wx (.ife c' a' b')) := PE.of (pe_ifExp hc ha hb) fun _ _ _ h => i_ife h
/-! #### displays, arguments -/
theorem q_dnil : PA X [] (tD Γ dp W En Wx .nil) := PA.of pa_nil fun _ _ _ h => i_dnil h
theorem q_dcons (ha : PE X e (tE Γ dp W En Wx e')) (hr : PA X es (tD Γ dp W En Wx es')) (hs : starEach (e :: es) X.env = (false, eval e X.env) :: starEach es X.env := by rfl) : PA X (e :: es) (tD Γ dp W En Wx (.cons false e' es')) := PA.of (pa_cons ha hr hs) fun _ _ _ h => i_dcons h
theorem q_dstar (B : XB W X) (ha : PE X e (tE Γ dp W En Wx e')) (hr : PA X es (tD Γ dp W En Wx es')) (hs : starEach (.Starred e p :: es) X.env = (true, eval e X.env) :: starEach es X.env := by rfl) : PA X (.Starred e p :: es) (tD Γ dp W En Wx (.cons true e' es')) :=
  PA.of (StX.pa_star ha hr hs) fun _ _ _ h => by rw [B.hK]; exact i_dstar h
theorem q_tup {x1} (h : PA X es (tD Γ dp W En Wx es')) : PE X (.Tuple es x1 p) (tE Γ dp W En Wx (.tup es')) := PE.of (pe_tup h) fun _ _ _ h => i_tup h
theorem q_lst (h : PA X es (tD Γ dp W En Wx es')) : PE X (.List es p) (tE Γ dp W En Wx (.lst es')) := PE.of (pe_lst h) fun _ _ _ h => i_lst h
theorem q_anil : PA X [] (tA Γ dp W En Wx .nil) := PA.of pa_nil fun _ _ _ h => i_anil h
theorem q_acons {b : Bool} (ha : PE X e (tE Γ dp W En Wx e')) (hr : PA X es (tA Γ dp W En Wx es')) (hs : starEach (e :: es) X.env = (false, eval e X.env) :: starEach es X.env := by rfl) : PA X (e :: es) (tA Γ dp W En Wx (.cons b e' es')) := PA.of (pa_cons ha hr hs) fun _ _ _ h => i_acons h
theorem PK.of {kws : List Keyword} {t t' : TA} (h : PK X kws t) (i : ∀ σ H Q, t' σ H Q → t σ H Q) : PK X kws t' := ⟨fun pos pins s σ H Q I q => h.run pos pins s σ H Q I (i σ H Q q)⟩
theorem q_knil : PK X [] (tA Γ dp W En Wx .nil) := PK.of pk_nil fun _ _ _ h => i_anil h
theorem q_kcons {nm : Option Str} {kpos : Pos} {kws : List Keyword} {b : Bool} (ha : PE X e (tE Γ dp W En Wx e')) (hr : PK X kws (tA Γ dp W En Wx es')) : PK X (⟨nm, e, kpos⟩ :: kws) (tA Γ dp W En Wx (.cons b e' es')) := PK.of (L2.pk_cons ha hr) fun _ _ _ h => i_acons h
/-! #### items, slices -/
theorem q_pn : PO X none (tP Γ dp W En Wx .none) := PO.of po_none fun _ _ _ h => i_pnone h
theorem q_ps (h : PE X e (tE Γ dp W En Wx e')) : PO X (some e) (tP Γ dp W En Wx (.some e')) := PO.of (po_some h) fun _ _ _ h => i_psome h
theorem q_sl {lo hi : Option Expr} {lo' hi' : EO} {p2 : Pos} (B : XB W X) (he : PE X e (tE Γ dp W En Wx e')) (hl : PO X lo (tP Γ dp W En Wx lo')) (hu : PO X hi (tP Γ dp W En Wx hi')) : PE X (.Subscript e (.Slice lo hi none p2) p) (tE Γ dp W En Wx (.sl e' lo' hi')) :=
  PE.of (pe_slice sl_any he hl hu) fun _ _ _ h => by rw [B.hK]; exact i_sl h
/-- the classes with an own __getitem__ -/
def GetOk (Γ : Ctx) (W : Wd) (X : Cx) (k : Nat) : Prop := ∀ c C g, W.ins c = some C → Γ.meth c m_getitem = some g → ∃ f fd ps, PySem.W.findIn X.K (.ref C) "__getitem__" = some (some (.ref f)) ∧ PySem.W.fnIn X.K f = true ∧ PySem.W.isFn X.K (.ref f) = true ∧ FnG X.prog X.w X.K X.mg X.base k f fd ps (spD W (Γ.call g)) ∧ Binds X.K fd ps []
theorem q_ix (Cx : XC W Wx X (k + 1)) (G : GetOk Γ W X k) (ha : PE X a (tE Γ dp W En Wx a')) (hb : PE X b (tE Γ dp W En Wx b')) (hs : PlainIx b := by intro _ _; rfl)
    (hsl : ∀ ov iv, subscripted b true ov iv = runValue (.builtin "lifetime.subscript" ⟨[ov, iv], []⟩) := by intro _ _; with_unfolding_all rfl) : PE X (.Subscript a b p) (tE Γ dp W En Wx (.ix a' b')) := by
  refine ⟨fun pins s σ H Q I h => ?_⟩
  have h := i_ix h
  refine Subscript_ (thn (ha.run pins s σ H _ I h) fun v s1 ⟨y, H1, I1, r1, q1⟩ => thn (hb.run pins s1 σ H1 _ I1 q1) fun u s2 ⟨z, H2, I2, r2, q2⟩ => ?_)
  rcases q2 with q2 | q2
  · rw [← Cx.hK] at q2
    exact ix_any (by have := Cx.un; omega) a b pins s2 σ H2 y z v u Q I2 r1 r2 q2 (hs _ _)
  · obtain ⟨g, c, C, a0, dx, fs, rfl, hc, hh, hm, sp⟩ := q2
    obtain ⟨f, fd, ps, f1, f2, f3, F, hbd⟩ := G c C g hc hm
    obtain rfl : v = Value.ref a0 := r1
    obtain ⟨m, fr⟩ := I2.fr
    obtain ⟨mA, O, _⟩ := ins_get I2.hok hh
    obtain ⟨od, J, _⟩ := O.look
    exact PySem.W.sub_K fr I2.mod.kin J f1 f2 f3 (runG F Cx.rm.in1 Cx.gu I2.env0.in1 hbd (passAt Cx.tk σ) I2 (.cons (show RelV (.ref a0) (.ref a0) from rfl) (.cons r2 .nil)) sp) (hsl _ _)
end
end QL
end
section
set_option linter.all false
set_option maxRecDepth 100000
set_option maxHeartbeats 1000000
/-! SF4: fields, methods, calls, makings, built-in functions: rules. -/
namespace QL
open PySem PySem.Spec PyProof.Rows L2

section
variable {Γ : Ctx} {dp : Bool} {W : Wd} {En : List (Addr × Nat × Addr)} {Wx : WX} {X : Cx} {k : Nat} {a b c e o : Expr} {es : List Expr} {a' b' c' e' o' : QL.E} {es' : Es} {p pos apos cpos : Pos} {x : Str}
/-- what is known of a field's name: no class has it, but as a property -/
def FldOk (Γ : Ctx) (W : Wd) (X : Cx) (k f : Nat) : Prop := ∀ c C, W.ins c = some C → Cls X.K C ∧ (Γ.prop c f = none → NoAttr X.K C (W.fld f)) ∧
  ∀ g, Γ.prop c f = some g → ∃ pr fa fd ps, PropOf X.K C (W.fld f) pr fa ∧ FnG X.prog X.w X.K X.mg X.base k fa fd ps (spD W (Γ.call g)) ∧ Binds X.K fd ps []
theorem getpropG {pins : List (Addr × Obj)} {σ : L2.St} {H : Hp} {s : Shared} {Q : VK} {bb : Bool} {C pr g a dx : Addr} {fs : List (Str × V)} {f : Str} {fd : FuncData} {ps : List Str} {sp : Sp} (I : Inv X pins σ H s) (ea : H a = some (.ins C dx fs)) (cl : Cls X.K C) (hp : PropOf X.K C f pr g)
    (F : FnG X.prog X.w X.K X.mg X.base k g fd ps sp) (hr : Room (k + 1) X.A) (gu : X.A.guards = some []) (hb : Binds X.K fd ps []) (h : sp [.ref a] H Q fun _ _ _ => False) : wpAny (model X.prog X.w) X.A (getAttr (.ref a) f bb) (EP X pins σ Q) X.xe s := by
  obtain ⟨mA, O, _⟩ := ins_get I.hok ea
  obtain ⟨od, J, _⟩ := O.look
  obtain ⟨rest, hrec⟩ := hp.rec_
  have I1 := I.tok (s.toks + 1)
  have hl : [Value.ref a].length = ps.length := by
    have := F.len _ _ _ _ h
    rw [← this]; rfl
  have hcls : (PySem.W.clsIn X.K C).isSome = true := by
    obtain ⟨cd, h1, _⟩ := PySem.W.any_some cl.hd
    rw [h1]; rfl
  have bd := hb { s with toks := s.toks + 1 } [.ref a] I1.kIn (by rw [List.append_nil]; exact hl)
  rw [List.append_nil] at bd
  refine PySem.W.get_bind I.kIn J (PySem.W.plainGet_of (cl.get f)).1 (PySem.W.findObj_data hcls hp.at_ hp.get hp.tak) (PySem.W.plainGet_of (cl.get f)).2 (wpAny_call (PySem.W.prop_get (s := { s with toks := s.toks + 1 }) I.kIn hrec ?_))
  refine codeAny_mono (F.run X.A.in1 X.stack { s with toks := s.toks + 1 } H ⟨[.ref a], []⟩ [.ref a] [.ref a] Q _ gu hr.in1 I1.env0.in1 bd (.cons rfl .nil) h) fun res s2 hq => ?_
  cases res with
  | error er =>
    obtain ⟨_, _, _, _, _, _, _, _, _, _, _, _, z⟩ := hq
    exact False.elim z
  | ok fl =>
    cases fl with
    | ret u =>
      obtain ⟨v, H', I3, rv, q3⟩ := I1.after hq
      show wpAny _ _ (handedOut u) _ _ _
      rw [PySem.W.handedOut_of (handed_of rv)]
      exact wpAny_pure ⟨v, H', I3, rv, q3⟩
    | _ => exact False.elim hq
theorem q_fld {f : Nat} (Cx : XC W Wx X (k + 1)) (F : FldOk Γ W X k f) (ha : PE X a (tE Γ dp W [] Wx a')) (hab : attributeBase a (W.fld f) X.env (eval a X.env) = eval a X.env := by rfl) : PE X (.Attribute a (W.fld f) p) (tE Γ dp W [] Wx (.fld a' f)) := by
  refine ⟨fun pins s σ H Q I h => ?_⟩
  refine attr_of hab (thn (ha.run pins s σ H _ I (i_fld h)) fun u s1 ⟨y, H1, I1, ry, q⟩ => ?_)
  rcases q with ⟨c, C, a0, dx, fs, v, rfl, hc, hh, hp, hl, q⟩ | ⟨g, c, C, a0, dx, fs, rfl, hc, hh, hp, sp⟩ | ⟨_, a0, c, d, v, z, _⟩
  · obtain rfl : u = Value.ref a0 := ry
    obtain ⟨cl, na, _⟩ := F c C hc
    exact getattr_ok I1 hh cl (na hp) hl fun u' s2 I2 ru => ⟨v, H1, I2, ru, q⟩
  · obtain rfl : u = Value.ref a0 := ry
    obtain ⟨cl, _, pr⟩ := F c C hc
    obtain ⟨pa, fa, fd, ps, P, FG, hb⟩ := pr g hp
    exact getpropG I1 hh cl P FG Cx.rm Cx.gu hb sp
  · exact absurd z (by simp)
/-- a method's name, by its number -/
def MethOk (Γ : Ctx) (W : Wd) (X : Cx) (k m : Nat) (nm : Str) : Prop := (∀ j, W.fld j ≠ nm) ∧ ∀ c C g, W.ins c = some C → Γ.meth c m = some g → ∃ f fd ps, Cls X.K C ∧ Meth X.K C nm f ∧ FnG X.prog X.w X.K X.mg X.base k f fd ps (spD W (Γ.call g)) ∧ Binds X.K fd ps []
theorem q_um {m : Nat} {nm : Str} {pl : Sem Bool} (Cx : XC W Wx X k) (M : MethOk Γ W X k m nm) (ho : PE X o (tE Γ dp W En Wx o')) (ha : PA X (e :: es) (tA Γ dp W En Wx es')) (hst : starEach (e :: es) X.env = (false, eval e X.env) :: starEach es X.env := by rfl) (hpl : (backTo p (starEach es X.env)).any (·.1) = false := by rfl)
    (ht : eval (.Call (.Attribute o nm apos) (e :: es) [] p) X.env = (do
      let ov ← eval o X.env
      standAt apos.atName
      let (f, first) ← holding [ov] (getMethod ov nm pl)
      callWith p f first (backTo p (starEach (e :: es) X.env)) (backToKw p (keywordEach [] X.env))) := by rfl) : PE X (.Call (.Attribute o nm apos) (e :: es) [] p) (tE Γ dp W En Wx (.um o' m es' [])) := by
  refine ⟨fun pins s σ H Q I h => ?_⟩
  refine PySem.W.methodCall_KW (pl := pl) (thn (ho.run pins s σ H _ I (i_um h)) fun u s1 ⟨y, H1, I1, ry, q⟩ => ?_) ht
  obtain ⟨c, C, a0, dx, fs, g, rfl, hc, hh, hm, no, q⟩ := q
  obtain rfl : u = Value.ref a0 := ry
  obtain ⟨f, fd, ps, cl, mt, F, hb⟩ := M.2 c C g hc hm
  refine getmeth_ok I1 hh cl mt (no nm M.1) ?_
  refine PySem.W.callWith_K (first := [.ref a0]) (h₀ := X.base) I.ok.mod.kin mt.kp (thn (ha.run p pins s1 σ H1 _ I1 q) fun us s2 ⟨vs, H2, I2, r, q2⟩ => ⟨I2.kIn, ?_⟩) hst hpl
  exact runG (us := .ref a0 :: us) (vs := .ref a0 :: vs) F Cx.rm Cx.gu I2.env0 hb (passAt Cx.tk σ) I2 (.cons rfl r) q2
theorem q_um0 {m : Nat} {nm : Str} {pl : Sem Bool} (Cx : XC W Wx X k) (M : MethOk Γ W X k m nm) (ho : PE X o (tE Γ dp W En Wx o'))
    (ht : eval (.Call (.Attribute o nm apos) [] [] p) X.env = (do
      let ov ← eval o X.env
      standAt apos.atName
      let (f, first) ← holding [ov] (getMethod ov nm pl)
      callWith p f first (backTo p (starEach [] X.env)) (backToKw p (keywordEach [] X.env))) := by rfl) : PE X (.Call (.Attribute o nm apos) [] [] p) (tE Γ dp W En Wx (.um o' m .nil [])) := by
  refine ⟨fun pins s σ H Q I h => ?_⟩
  refine PySem.W.methodCall_KW (pl := pl) (thn (ho.run pins s σ H _ I (i_um h)) fun u s1 ⟨y, H1, I1, ry, q⟩ => ?_) ht
  obtain ⟨c, C, a0, dx, fs, g, rfl, hc, hh, hm, no, q⟩ := q
  obtain rfl : u = Value.ref a0 := ry
  obtain ⟨f, fd, ps, cl, mt, F, hb⟩ := M.2 c C g hc hm
  refine getmeth_ok I1 hh cl mt (no nm M.1) ?_
  exact PySem.W.callWith_K0 (first := [.ref a0]) I1.kIn mt.kp (runG (us := [.ref a0]) (vs := [.ref a0]) F Cx.rm Cx.gu I1.env0 hb (passAt Cx.tk σ) I1 (.cons rfl .nil) (i_anil q))
theorem q_call {i : Nat} {f : Addr} {fd : FuncData} {ps : List Str} {p0 : Pos} (Cx : XC W Wx X k) (F : FnG X.prog X.w X.K X.mg X.base k f fd ps (spD W (Γ.call i))) (hm : X.mg x = some (.ref f)) (hk : PySem.W.keepIn X.K (.ref f) = true) (hb : Binds X.K fd ps [])
    (ha : PA X (e :: es) (tA Γ dp W En Wx es')) (hg : Gl X x := by rfl) (hdb : (x == ("__debug__" : Str)) = false := by decide) (he : starEach (e :: es) X.env = (false, eval e X.env) :: starEach es X.env := by rfl) (hpl : (backTo p (starEach es X.env)).any (·.1) = false := by rfl) :
    PE X (.Call (.Name x p0) (e :: es) [] p) (tE Γ dp W En Wx (.call i es' [])) := PE.of (r_call F Cx.rm Cx.gu hg hm hk hb (fun σ => passAt Cx.tk σ) ha hdb he hpl) fun _ _ _ h => i_call h
theorem q_make {c i : Nat} {C f : Addr} {fd : FuncData} {ps : List Str} {p0 : Pos} (Cx : XC W Wx X (k + 1)) (hi : Γ.init c = some i) (hc : W.ins c = some C) (M : Mk X.K C f) (F : FnG X.prog X.w X.K X.mg X.base k f fd ps (spD W (Γ.call i))) (hm : X.mg x = some (.ref C)) (hb : Binds X.K fd ps [])
    (ha : PA X (e :: es) (tA Γ dp W En Wx es')) (hg : Gl X x := by rfl) (hdb : (x == ("__debug__" : Str)) = false := by decide) (he : starEach (e :: es) X.env = (false, eval e X.env) :: starEach es X.env := by rfl) (hpl : (backTo p (starEach es X.env)).any (·.1) = false := by rfl) :
    PE X (.Call (.Name x p0) (e :: es) [] p) (tE Γ dp W En Wx (.make c es' [])) := PE.of (r_make M F Cx.rm Cx.gu hg hm hb (fun σ => passAt Cx.tk σ) ha hdb he hpl) fun _ _ _ h => tA_mono (i_makeX hi h) fun vs H1 q => q C hc
/-! #### built-in functions and methods -/
theorem q_len {p0 : Pos} (Cx : XC W Wx X (k + 1)) (G : ∀ c C g, W.ins c = some C → Γ.meth c m_len = some g → ∃ f fd ps, PySem.W.findIn X.K (.ref C) "__len__" = some (some (.ref f)) ∧ PySem.W.isFn X.K (.ref f) = true ∧ FnG X.prog X.w X.K X.mg X.base k f fd ps (spD W (Γ.call g)) ∧ Binds X.K fd ps [])
    (hm : X.mg "len" = none) (ha : PA X [e] (tA Γ dp W En Wx es')) (hg : Gl X "len" := by rfl) (he : starEach [e] X.env = (false, eval e X.env) :: starEach [] X.env := by rfl) (hpl : (backTo p (starEach [] X.env)).any (·.1) = false := by rfl) :
    PE X (.Call (.Name "len" p0) [e] [] p) (tE Γ dp W En Wx (.prim .len es')) := by
  have cr : CallR X (.builtin "len") (rLenA Γ W) := by
    intro pins s σ H xs us Q I r h
    obtain ⟨v, rfl, h⟩ := h
    rcases h with ⟨n, l, q⟩ | ⟨a0, kvs, rfl, hh, q⟩ | ⟨g, c, C, a0, dx, fs, rfl, hc, hh, hml, sp⟩
    · rw [← Cx.hK] at l
      exact call_len pins s σ H [v] us Q I r ⟨v, n, rfl, l, q⟩
    · exact call_lenD pins s σ H [.ref a0] us Q I r ⟨a0, kvs, rfl, hh, q⟩
    · obtain ⟨u, rfl, ru⟩ := vals1 r
      obtain rfl : u = Value.ref a0 := ru
      obtain ⟨f, fd, ps, f1, f2, F, hb⟩ := G c C g hc hml
      obtain ⟨m, fr⟩ := I.fr
      obtain ⟨mA, O, _⟩ := ins_get I.hok hh
      obtain ⟨od, J, _⟩ := O.look
      refine PySem.W.len_K fr I.mod.kin J f1 f2 (thn (runG F Cx.rm.in1 Cx.gu I.env0.in1 hb (fun pins H s er s2 I hq => ?_) I (.cons (show RelV (.ref a0) (.ref a0) from rfl) .nil) sp) fun rv s2 hr => ?_)
      · obtain ⟨_, _, _, _, _, _, _, _, _, _, _, _, z⟩ := hq
        exact False.elim z
      · obtain ⟨v, H2, I2, rv', n, rfl, h0, h1, q⟩ := hr
        obtain ⟨t, rfl⟩ := rv'
        exact ⟨⟨h0, by omega⟩, ⟨.int n, H2, I2.tok _, ⟨_, rfl⟩, q⟩⟩
  exact PE.of (pe_callB cr hg hm PySem.boot_len ha (by decide) (by decide) he hpl) fun _ _ _ h => i_len h
theorem q_prim (q : Prim) (id : String) {p0 : Pos} (Cx : XC W Wx X k) (hs : sup q = true := by rfl) (hf : primF q = .builtin id := by rfl) (hm : X.mg x = none) (hv : bootBuiltins x = some (.builtin id)) (ha : PA X (e :: es) (tA Γ dp W En Wx es')) (hg : Gl X x := by rfl) (hn : x ≠ "__name__" := by decide) (hdb : (x == ("__debug__" : Str)) = false := by decide)
    (he : starEach (e :: es) X.env = (false, eval e X.env) :: starEach es X.env := by rfl) (hpl : (backTo p (starEach es X.env)).any (·.1) = false := by rfl) : PE X (.Call (.Name x p0) (e :: es) [] p) (tE Γ dp W En Wx (.prim q es')) :=
  PE.of (pe_callB (hf ▸ cr_prim Cx.cm Cx.gu Cx.un q) hg hm hv ha hn hdb he hpl) fun _ _ _ h => by rw [Cx.hK]; exact i_prim hs h
theorem q_primT (q : Prim) (T : String) {p0 : Pos} (Cx : XC W Wx X k) (hs : sup q = true := by rfl) (hf : primF q = .type T := by rfl) (hm : X.mg x = none) (hv : bootBuiltins x = some (.type T)) (ha : PA X (e :: es) (tA Γ dp W En Wx es')) (hg : Gl X x := by rfl) (hn : x ≠ "__name__" := by decide) (hdb : (x == ("__debug__" : Str)) = false := by decide)
    (he : starEach (e :: es) X.env = (false, eval e X.env) :: starEach es X.env := by rfl) (hpl : (backTo p (starEach es X.env)).any (·.1) = false := by rfl) : PE X (.Call (.Name x p0) (e :: es) [] p) (tE Γ dp W En Wx (.prim q es')) :=
  PE.of (pe_callTy (hf ▸ cr_prim Cx.cm Cx.gu Cx.un q) hg hm hv ha hn hdb he hpl) fun _ _ _ h => by rw [Cx.hK]; exact i_prim hs h
theorem q_bm (q : BM) {name : Str} (B : XB W X) (hs : supM q = true) (slot : Slot "list" name (bmId q)) (hty : typeOf (.builtin (bmId q)) = pure (.type "method_descriptor")) (ho : PE X o (tE Γ dp W En Wx o')) (ha : PA X (e :: es) (tA Γ dp W En Wx es')) (hbase : attributeBase o name X.env (eval o X.env) = eval o X.env := by rfl)
    (hfew : ((backTo cpos (starEach (e :: es) X.env)).all (fun x => !x.1) && (backToKw cpos (keywordEach [] X.env)).all (fun x => x.1.isSome)
      && decide ((e :: es).length + ([] : List Keyword).length + (if ([] : List Keyword).isEmpty then 0 else 1) < 30)) = true := by rfl)
    (hline : (apos.endLine == cpos.line) = true := by rfl) (hst : starEach (e :: es) X.env = (false, eval e X.env) :: starEach es X.env := by rfl) (hplain : (backTo cpos (starEach es X.env)).any (·.1) = false := by rfl) :
    PE X (.Call (.Attribute o name apos) (e :: es) [] cpos) (tE Γ dp W En Wx (.bm o' q es')) := PE.of (pe_bm PySem.F.plainAttrs_list slot hty (mt_mut hs) ho ha hbase hfew hline hst hplain) fun _ _ _ h => by rw [B.hK]; exact i_bmA hs h
theorem q_bm0 (q : BM) {name : Str} (B : XB W X) (hs : supM q = true) (slot : Slot "list" name (bmId q)) (hty : typeOf (.builtin (bmId q)) = pure (.type "method_descriptor")) (ho : PE X o (tE Γ dp W En Wx o')) (hbase : attributeBase o name X.env (eval o X.env) = eval o X.env := by rfl) (hline : (apos.endLine == cpos.line) = true := by rfl) :
    PE X (.Call (.Attribute o name apos) [] [] cpos) (tE Γ dp W En Wx (.bm o' q .nil)) := PE.of (pe_bm0 PySem.F.plainAttrs_list slot hty (mt_mut hs) ho hbase hline) fun _ _ _ h => by rw [B.hK]; exact i_bm0 hs h
theorem q_rd (q : BM) {name : Str} (B : XB W X) (hs : supR q = true) (pa : PlainAttrs (rdTy q)) (slot : Slot (rdTy q) name (rdId q)) (hty : typeOf (.builtin (rdId q)) = pure (.type "method_descriptor")) (ho : PE X o (tE Γ dp W En Wx o')) (ha : PA X (e :: es) (tA Γ dp W En Wx es')) (hbase : attributeBase o name X.env (eval o X.env) = eval o X.env := by rfl)
    (hfew : ((backTo cpos (starEach (e :: es) X.env)).all (fun x => !x.1) && (backToKw cpos (keywordEach [] X.env)).all (fun x => x.1.isSome)
      && decide ((e :: es).length + ([] : List Keyword).length + (if ([] : List Keyword).isEmpty then 0 else 1) < 30)) = true := by rfl)
    (hline : (apos.endLine == cpos.line) = true := by rfl) (hst : starEach (e :: es) X.env = (false, eval e X.env) :: starEach es X.env := by rfl) (hplain : (backTo cpos (starEach es X.env)).any (·.1) = false := by rfl) :
    PE X (.Call (.Attribute o name apos) (e :: es) [] cpos) (tE Γ dp W En Wx (.bm o' q es')) := PE.of (pe_bm pa slot hty (mt_read (by have := B.un; omega) hs) ho ha hbase hfew hline hst hplain) fun _ _ _ h => by rw [B.hK]; exact i_rdA hs h
theorem q_rd0 (q : BM) {name : Str} (B : XB W X) (hs : supR q = true) (pa : PlainAttrs (rdTy q)) (slot : Slot (rdTy q) name (rdId q)) (hty : typeOf (.builtin (rdId q)) = pure (.type "method_descriptor")) (ho : PE X o (tE Γ dp W En Wx o')) (hbase : attributeBase o name X.env (eval o X.env) = eval o X.env := by rfl) (hline : (apos.endLine == cpos.line) = true := by rfl) :
    PE X (.Call (.Attribute o name apos) [] [] cpos) (tE Γ dp W En Wx (.bm o' q .nil)) := PE.of (pe_bm0 pa slot hty (mt_read (by have := B.un; omega) hs) ho hbase hline) fun _ _ _ h => by rw [B.hK]; exact i_rd0 hs h
end
end QL
end
section
set_option linter.all false
set_option maxRecDepth 100000
set_option maxHeartbeats 1000000
/-! SF5: walks, comprehensions, statements: rules. -/
namespace QL
open PySem PySem.Spec PyProof.Rows L2

section
variable {Γ : Ctx} {dp : Bool} {W : Wd} {En : List (Addr × Nat × Addr)} {Wx : WX} {fx : Nat → Bool} {X : Cx} {k : Nat} {a b c e o tg iter : Expr} {es : List Expr} {a' b' c' e' o' : QL.E} {es' : Es} {p p2 pos apos cpos : Pos} {x : Str}
/-! #### targets -/
theorem q_gn (i : Nat) (nd : X.N.Nodup) (hi : X.N[i]? = some x := by rfl) (hx : Loc X.env.scope x := by first | exact Or.inl rfl | exact Or.inr rfl) (hf : X.fn x = true ∨ X.env.scope.names.lookup x = some .local := by first | exact .inl rfl | exact .inr rfl) : PG X (.Name x p) (gOf W.K (.n i)) := pg_name nd hi hx hf
theorem q_gnil : PGs X [] (gsOf W.K []) := pgs_nil
theorem q_gcons {t : Tg} {l : List Tg} (h1 : PG X e (gOf W.K t)) (h2 : PGs X es (gsOf W.K l)) (hs : (assignEach (e :: es) X.env).map (·.2) = assign e X.env :: (assignEach es X.env).map (·.2) := by rfl) : PGs X (e :: es) (gsOf W.K (t :: l)) := pgs_cons h1 h2 hs
theorem q_gt {l : List Tg} {j : Nat} (B : XB W X) (cm : X.calm = true) (h : PGs X es (gsOf W.K l)) (hn : (assignEach es X.env).length = l.length := by rfl) (hst : (assignEach es X.env).findIdx? (·.1) = none := by rfl) : PG X (.Tuple es j p) (gOf W.K (.t l)) := by
  have z := pg_tup (k := j) (pos := p) cm h hn hst
  rw [B.hK] at z
  exact z
/-! #### walks -/
theorem q_iE (B : XB W X) (h : PE X e (tE Γ dp W En Wx e')) : PI X tg e (tI Γ dp W En Wx (.e e')) := PI.of (pi_any h) fun _ _ _ q => by rw [B.hK]; exact i_iE q
theorem q_iEnum {elts : List Expr} {kk : Nat} {tpos : Pos} (B : XB W X) (hm : X.mg "enumerate" = none) (h : PE X e (tE Γ dp W En Wx e')) (hg : Gl X "enumerate" := by rfl) (hs : starEach [e] X.env = [(false, eval e X.env)] := by rfl) : PI X (.Tuple elts kk tpos) (.Call (.Name "enumerate" p) [e] [] pos) (tI Γ dp W En Wx (.enum e')) :=
  PI.of (pi_enum hg hm (pa_cons h pa_nil hs) hs) fun _ _ _ q => by rw [B.hK]; exact i_iEnum q
theorem q_iR1 {s1 : Bool} (hm : X.mg "range" = none) (h : PE X a (tE Γ dp W En Wx a')) (hg : Gl X "range" := by rfl) (hs : starEach [a] X.env = [(false, eval a X.env)] := by rfl) : PI X tg (.Call (.Name "range" p) [a] [] pos) (tI Γ dp W En Wx (.range (.cons s1 a' .nil))) :=
  PI.of (pi_range1 hg hm (pa_cons h pa_nil hs) hs) fun _ _ _ q => i_iR1 q
theorem q_iR2 {s1 s2 : Bool} (hm : X.mg "range" = none) (h : PE X a (tE Γ dp W En Wx a')) (h2 : PE X b (tE Γ dp W En Wx b')) (hg : Gl X "range" := by rfl) (hs : starEach [a, b] X.env = [(false, eval a X.env), (false, eval b X.env)] := by rfl) (hs2 : starEach [b] X.env = [(false, eval b X.env)] := by rfl) :
    PI X tg (.Call (.Name "range" p) [a, b] [] pos) (tI Γ dp W En Wx (.range (.cons s1 a' (.cons s2 b' .nil)))) :=
  PI.of (pi_range2 hg hm (pa_cons h (pa_cons h2 pa_nil hs2) (by rw [hs, hs2])) hs hs2) fun _ _ _ q => i_iR2 q
/-! #### comprehensions -/
theorem XC.blk (Cx : XC W Wx X k) (s : Shared) (H : Hp) (sc : Scope) (C : Addr) (cl : List (Str × Addr)) (fp : List Addr) : XC W wF (X.blk s H sc (compEnvC sc cl C X.env) fp) k where
  hK := Cx.hK
  nd := Cx.nd
  gu := Cx.gu
  un := Cx.un
  rm := Cx.rm
  cm := Cx.cm
  po := PassesOwn.never
  tk := fun u s' ⟨_, _, _, _, _, _, _, _, _, _, _, _, _, _, _, _, z⟩ => z.elim
theorem q_ptn {X : Cx} : PTs X [] (tEO Γ dp W En Wx .none) := pts_nil
theorem q_pt1 {X : Cx} (h : PT X c (tT Γ dp W En Wx c')) : PTs X [c] (tEO Γ dp W En Wx (.some c')) := pts_one h
theorem q_comp {own' : List (Str × Nat)} {own : List Nat} {sc : Scope} {ifs : List Expr} {t : Tg} {it : QL.It} {cond : EO} {elt : Expr} (Cx : XC W Wx X k) (hi : PI X tg iter (tI Γ dp W En Wx it)) (ok : BlkOk X.N X.env.scope sc own')
    (hg : ∀ (s : Shared) (H : Hp) (C : Addr) (cl : List (Str × Addr)) (fp : List Addr), XC W wF (X.blk s H sc (compEnvC sc cl C X.env) fp) k → PG (X.blk s H sc (compEnvC sc cl C X.env) fp) tg (gOf W.K t))
    (ht : ∀ (s : Shared) (H : Hp) (C : Addr) (cl : List (Str × Addr)) (fp : List Addr), XC W wF (X.blk s H sc (compEnvC sc cl C X.env) fp) k → PTs (X.blk s H sc (compEnvC sc cl C X.env) fp) ifs (tEO Γ dp W En wF cond))
    (he : ∀ (s : Shared) (H : Hp) (C : Addr) (cl : List (Str × Addr)) (fp : List Addr), XC W wF (X.blk s H sc (compEnvC sc cl C X.env) fp) k → PE (X.blk s H sc (compEnvC sc cl C X.env) fp) elt (tE Γ dp W En wF e'))
    (eo : own'.map (·.2) = own := by rfl) (ho : ∀ i, tgHas i t = true → i ∈ own) (hs : ∀ x, foldedSetIterable iter X.env x = pure x := by intro _; rfl) : PE X (.ListComp elt [⟨tg, iter, ifs, 0⟩] sc pos) (tE Γ dp W En Wx (.comp own t it cond e')) :=
  PE.ofL (pe_lc Cx.cm Cx.nd hi ok (fun s H C cl fp => hg s H C cl fp (Cx.blk ..)) (fun s H C cl fp => ht s H C cl fp (Cx.blk ..)) (fun s H C cl fp => he s H C cl fp (Cx.blk ..)) hs) fun σ H Q hl q => by
    rw [eo]
    refine i_comp ho (fun i hi => ?_) q
    rw [← eo] at hi
    obtain ⟨y, hy, rfl⟩ := List.mem_map.mp hi
    rw [hl]
    exact get_lt (ok.ix y hy)
/-! #### statements -/
theorem q_snil : PSs X [] (tSs Γ dp W En Wx fx .nil) := PSs.of pss_nil fun _ _ _ h => i_snil h
theorem q_scons {st : Stmt} {rest : List Stmt} {s : QL.S} {ss : Ss} (h1 : PS X st (tS Γ dp W En Wx fx s)) (h2 : PSs X rest (tSs Γ dp W En Wx fx ss)) : PSs X (st :: rest) (tSs Γ dp W En Wx fx (.cons s ss)) := PSs.of (pss_cons h1 h2) fun _ _ _ h => i_scons h
theorem q_pass : PS X (.Pass p) (tS Γ dp W En Wx fx .pass) := PS.of ps_pass fun _ _ _ h => i_pass h
theorem q_brk : PS X (.Break p) (tS Γ dp W En Wx fx .brk) := PS.of ps_break fun _ _ _ h => i_brk h
theorem q_cnt : PS X (.Continue p) (tS Γ dp W En Wx fx .cnt) := PS.of ps_continue fun _ _ _ h => i_cnt h
theorem q_ret (h : PE X e (tE Γ dp W En Wx e')) : PS X (.Return (some e) p) (tS Γ dp W En Wx fx (.ret e')) := PS.of (ps_ret h) fun _ _ _ h => i_ret h
theorem q_retN : PS X (.Return none p) (tS Γ dp W En Wx fx .retN) := PS.of ps_retN fun _ _ _ h => i_retN h
theorem q_ex (h : PE X e (tE Γ dp W En Wx e')) (hs : swapsWith e none p.line X.env = pure false := by rfl) : PS X (.Expr e p) (tS Γ dp W En Wx fx (.ex e')) := PS.of (ps_expr h hs) fun _ _ _ h => i_ex h
theorem q_if {l1 l2 : List Stmt} {s1 s2 : Ss} (h : PT X c (tT Γ dp W En Wx c')) (h1 : PSs X l1 (tSs Γ dp W En Wx fx s1)) (h2 : PSs X l2 (tSs Γ dp W En Wx fx s2)) : PS X (.If c l1 l2 p) (tS Γ dp W En Wx fx (.ifs c' s1 s2)) := PS.of (ps_if h h1 h2) fun _ _ _ h => i_ifs h
theorem q_set (i : Nat) (B : XB W X) (h : PE X e (tE Γ dp W En Wx e')) (hfx : fx i = false := by rfl) (hi : X.N[i]? = some x := by rfl) (hx : Loc X.env.scope x := by first | exact Or.inl rfl | exact Or.inr rfl) (hs : swapsWith e (some (.Name x p2)) p.line X.env = pure false := by rfl) (hf : X.fn x = true ∨ X.env.scope.names.lookup x = some .local := by first | exact .inl rfl | exact .inr rfl) :
    PS X (.Assign [.Name x p2] e p) (tS Γ dp W En Wx fx (.asg (.n i) e')) := PS.of (ps_set B.nd hi hx h hs hf) fun _ _ _ h => i_asgN hfx h
theorem q_asg {t : Tg} (h : PE X e (tE Γ dp W En Wx e')) (hg : PG X tg (gOf W.K t)) (hfx : ∀ i, tgHas i t = true → fx i = false) (hs : swapsWithSole [tg] e p.line X.env = pure false := by rfl) (hw : swappedStores [tg] e X.env = pure none := by rfl) (h1 : (assignEach [tg] X.env).map (·.2) = [assign tg X.env] := by rfl) :
    PS X (.Assign [tg] e p) (tS Γ dp W En Wx fx (.asg t e')) := PS.of (ps_asg h hg hs hw h1) fun _ _ _ h => i_asg hfx h
/-- x = [.. for ..] on one line, x a local -/
theorem q_setLc (i : Nat) {own' : List (Str × Nat)} {own : List Nat} {sc : Scope} {ifs : List Expr} {t : Tg} {it : QL.It} {cond : EO} {elt : Expr} (Cx : XC W Wx X k) (hi : PI X tg iter (tI Γ dp W En Wx it)) (ok : BlkOk X.N X.env.scope sc own')
    (hg : ∀ (s : Shared) (H : Hp) (C : Addr) (cl : List (Str × Addr)) (fp : List Addr), XC W wF (X.blk s H sc (compEnvC sc cl C X.env) fp) k → PG (X.blk s H sc (compEnvC sc cl C X.env) fp) tg (gOf W.K t))
    (ht : ∀ (s : Shared) (H : Hp) (C : Addr) (cl : List (Str × Addr)) (fp : List Addr), XC W wF (X.blk s H sc (compEnvC sc cl C X.env) fp) k → PTs (X.blk s H sc (compEnvC sc cl C X.env) fp) ifs (tEO Γ dp W En wF cond))
    (he : ∀ (s : Shared) (H : Hp) (C : Addr) (cl : List (Str × Addr)) (fp : List Addr), XC W wF (X.blk s H sc (compEnvC sc cl C X.env) fp) k → PE (X.blk s H sc (compEnvC sc cl C X.env) fp) elt (tE Γ dp W En wF e'))
    (ho : ∀ i, tgHas i t = true → i ∈ own) (eo : own'.map (·.2) = own := by rfl) (hfx : fx i = false := by rfl) (hy : X.N[i]? = some x := by rfl) (hyl : X.env.scope.names.lookup x = some .local := by rfl)
    (hsw : swapsWith (.ListComp elt [⟨tg, iter, ifs, 0⟩] sc pos) (some (.Name x p2)) p.line X.env = pure true) (hs : ∀ x, foldedSetIterable iter X.env x = pure x := by intro _; rfl) :
    PS X (.Assign [.Name x p2] (.ListComp elt [⟨tg, iter, ifs, 0⟩] sc pos) p) (tS Γ dp W En Wx fx (.asg (.n i) (.comp own t it cond e'))) :=
  PS.ofL (ps_setLc Cx.cm Cx.nd hy hyl hsw hi ok (fun s H C cl fp => hg s H C cl fp (Cx.blk ..)) (fun s H C cl fp => ht s H C cl fp (Cx.blk ..)) (fun s H C cl fp => he s H C cl fp (Cx.blk ..)) hs) fun D σ H hl q => by
    rw [eo]
    refine i_comp ho (fun i hi => ?_) (i_asgN hfx q)
    rw [← eo] at hi
    obtain ⟨y, hy, rfl⟩ := List.mem_map.mp hi
    rw [hl]
    exact get_lt (ok.ix y hy)
theorem q_aug (i : Nat) (B : XB W X) (h : PE X e (tE Γ dp W En Wx e')) (hfx : fx i = false := by rfl) (hi : X.N[i]? = some x := by rfl) (hx : Loc X.env.scope x := by first | exact Or.inl rfl | exact Or.inr rfl) (hf : X.fn x = true ∨ X.env.scope.names.lookup x = some .local := by first | exact .inl rfl | exact .inr rfl) :
    PS X (.AugAssign (.Name x p2) .Add e p) (tS Γ dp W En Wx fx (.aug i .add e')) := PS.ofL (ps_aug B.nd hi hx h ip_add hf) fun _ _ _ hl h => i_aug (by rw [hl]; exact get_lt hi) hfx h
theorem q_for {t : Tg} {it : QL.It} {body : List Stmt} {b' : Ss} (Cx : XC W Wx X k) (hi : PI X tg iter (tI Γ dp W En Wx it)) (hg : PG X tg (gOf W.K t)) (hb : PSs X body (tSs Γ dp W En Wx fx b')) (hfx : ∀ i, tgHas i t = true → fx i = false) (hfn : ∀ j, X.N.length ≤ j → fx j = true)
    (hs : ∀ x, foldedSetIterable iter X.env x = pure x := by intro _; rfl) : PS X (.For tg iter body [] p) (tS Γ dp W En Wx fx (.for t it b')) := PS.ofL (ps_for Cx.po Cx.cm hi hg hb hs) fun _ _ _ hl h => i_for hfx (fun j hj => hfn j (by rw [← hl]; exact hj)) h
theorem q_par2 (i j : Nat) {y : Str} {px py pt : Pos} {kt k2 pt2} (Cx : XC W Wx X k) (ha : PA X [a, b] (tA Γ dp W En Wx es')) (hij : i ≠ j := by decide) (hf1 : fx i = false := by rfl) (hf2 : fx j = false := by rfl) (hi : X.N[i]? = some x := by rfl) (hj : X.N[j]? = some y := by rfl)
    (hx : X.env.scope.names.lookup x = some .local := by rfl) (hy : X.env.scope.names.lookup y = some .local := by rfl) (hw : swappedStores [.Tuple [.Name x px, .Name y py] kt pt] (.Tuple [a, b] k2 pt2) X.env = pure (some [x, y]) := by rfl)
    (hs : swapsWithSole [.Tuple [.Name x px, .Name y py] kt pt] (.Tuple [a, b] k2 pt2) p.line X.env = pure false := by rfl) : PS X (.Assign [.Tuple [.Name x px, .Name y py] kt pt] (.Tuple [a, b] k2 pt2) p) (tS Γ dp W En Wx fx (.par [.n i, .n j] es')) :=
  PS.of (ps_par Cx.cm Cx.nd hi hj hij hx hy ha hw hs) fun _ _ _ h => i_par2 hf1 hf2 h
theorem q_par3 (i j l : Nat) {y z : Str} {px py pz pt : Pos} {kt k2 pt2} (Cx : XC W Wx X k) (ha : PA X [a, b, c] (tA Γ dp W En Wx es')) (hij : i ≠ j := by decide) (hil : i ≠ l := by decide) (hjl : j ≠ l := by decide) (hf1 : fx i = false := by rfl) (hf2 : fx j = false := by rfl) (hf3 : fx l = false := by rfl)
    (hi : X.N[i]? = some x := by rfl) (hj : X.N[j]? = some y := by rfl) (hl : X.N[l]? = some z := by rfl) (hx : X.env.scope.names.lookup x = some .local := by rfl) (hy : X.env.scope.names.lookup y = some .local := by rfl) (hz : X.env.scope.names.lookup z = some .local := by rfl)
    (hw : swappedStores [.Tuple [.Name x px, .Name y py, .Name z pz] kt pt] (.Tuple [a, b, c] k2 pt2) X.env = pure (some [x, y, z]) := by rfl) (hs : swapsWithSole [.Tuple [.Name x px, .Name y py, .Name z pz] kt pt] (.Tuple [a, b, c] k2 pt2) p.line X.env = pure false := by rfl) :
    PS X (.Assign [.Tuple [.Name x px, .Name y py, .Name z pz] kt pt] (.Tuple [a, b, c] k2 pt2) p) (tS Γ dp W En Wx fx (.par [.n i, .n j, .n l] es')) :=
  PS.of (ps_par3 Cx.cm Cx.nd hi hj hl hij hil hjl hx hy hz ha hw hs) fun _ _ _ h => i_par3 hf1 hf2 hf3 h
theorem q_setIx (B : XB W X) (hv : PE X e (tE Γ dp W En Wx e')) (ho : PE X a (tE Γ dp W En Wx a')) (hi : PE X b (tE Γ dp W En Wx b')) (hs : swapsWithSole [.Subscript a b p2] e p.line X.env = pure false := by rfl) (hw : swappedStores [.Subscript a b p2] e X.env = pure none := by rfl)
    (h1 : (assignEach [.Subscript a b p2] X.env).map (·.2) = [assign (.Subscript a b p2) X.env] := by rfl)
    (hasg : ∀ v, assign (.Subscript a b p2) X.env v = (do
      let ov ← holding [v] (eval a X.env)
      let iv ← holding [v, ov] (eval b X.env)
      standAt p2
      holding [v, ov, iv] (setItem ov iv v)
      release [v, ov, iv] []) := by intro _; rfl) : PS X (.Assign [.Subscript a b p2] e p) (tS Γ dp W En Wx fx (.setIx a' b' e')) :=
  PS.of (ps_asg hv (pg_sub ho hi (set_any (by have := B.un; omega)) hasg) hs hw h1) fun _ _ _ h => i_setIx h
theorem q_setFld {f : Nat} (B : XB W X) (F : ∀ c C, W.ins c = some C → Cls X.K C ∧ NoAttr X.K C (W.fld f)) (ho : PE X o (tE Γ dp W En Wx o')) (hv : PE X e (tE Γ dp W En Wx e')) (hs : swapsWith e (some (.Attribute o (W.fld f) p2)) p.line X.env = pure false := by rfl) :
    PS X (.Assign [.Attribute o (W.fld f) p2] e p) (tS Γ dp W En Wx fx (.setFld o' f e')) :=
  PS.of (ps_fld ho hv hs) fun D σ H h => by
    have h := i_setFld h
    exact tE_mono h fun y H1 h => tE_mono h fun z H2 ⟨a0, C, dx, c, fs, e, hc, hh, ln, q⟩ => ⟨a0, C, dx, fs, e, hh, (F c C hc).1, (F c C hc).2, ln, q⟩
end
end QL
end
section
set_option linter.all false
set_option maxRecDepth 100000
set_option maxHeartbeats 1000000
/-! SF6: a def's promise by its body; the law's call. -/
namespace QL
open PySem PySem.Spec PyProof.Rows L2

theorem FnG.mono {P : Program} {w : World} {K : PySem.W.Frag} {mg : Str → Option Value} {base : Heap} {j k : Nat} {f : Addr} {fd : FuncData} {ps : List Str} {sp : Sp} (F : FnG P w K mg base j f fd ps sp) (h : j ≤ k) : FnG P w K mg base k f fd ps sp :=
  ⟨F.len, fun A out s H args us vs Q E hg hr => F.run A out s H args us vs Q E hg (hr.mono h)⟩
theorem XC.lo {W : Wd} {Wx : WX} {X : Cx} {k : Nat} (C : XC W Wx X (k + 1)) : XC W Wx X k := ⟨C.toXB, C.rm.mono (Nat.le_succ k), C.cm, C.po, C.tk⟩
/-- a program's defs, n calls deep -/
abbrev gam (Pg : Prg) (n : Nat) : Ctx := { call := callW Pg n, meth := Pg.meth, prop := Pg.prop, init := Pg.init, sub := Pg.sub }
theorem callW_succ {Pg : Prg} {n i : Nat} {fn : Fn} (h : Pg.fn i = some fn) : callW Pg (n + 1) i = runW (gam Pg n) fn := by
  funext ms K X
  show (match Pg.fn i with
    | some fn => runW { call := callW Pg n, meth := Pg.meth, prop := Pg.prop, init := Pg.init, sub := Pg.sub } fn ms K X
    | none => False) = _
  rw [h]
theorem fn_zero {P : Program} {w : World} {K : PySem.W.Frag} {mg : Str → Option Value} {base : Heap} {k : Nat} {f : Addr} {fd : FuncData} {ps : List Str} {W : Wd} {Pg : Prg} {i : Nat} : FnG P w K mg base k f fd ps (spD W (callW Pg 0 i)) :=
  ⟨fun _ _ _ _ ⟨_, _, _, _, _, _, _, _, _, g, _⟩ => g.elim, fun _ _ _ _ _ _ _ _ _ _ _ _ _ _ ⟨_, _, _, _, _, _, _, _, _, g, _⟩ => g.elim⟩
theorem fn_def {P : Program} {w : World} {K : PySem.W.Frag} {mg : Str → Option Value} {base : Heap} {k : Nat} {f : Addr} {name qual : Str} {params : Arguments} {body : List Stmt} {scope : Scope} {dV kV doc pm cdv ct oc : Value} {an od : Option Addr} {osl : Array (Option Value)} {N ps : List Str} {W : Wd} {Pg : Prg} {n i : Nat} {fn : Fn}
    (hf : Pg.fn i = some fn) (hl : K.lookup f = some ⟨oc, od, .func (PySem.W.fnOf name qual params body scope dV kV doc pm an cdv ct), osl⟩) (hc : PySem.W.codeIn K cdv qual = true) (sc : FnScope N ps scope) (hps : ps.length = fn.np) (hN : N.length = fn.ns) (hp : fn.np ≤ fn.ns) (hK : K = W.K)
    (main : ∀ (A : Around) (out : List PySem.Env) (s : Shared) (H : Hp) (E : XK), XC W (fun cls d _ H => E cls d H) (cxOf (L2.CX P w) P w K mg base N qual scope f cdv A out s H E) k →
      PSs (cxOf (L2.CX P w) P w K mg base N qual scope f cdv A out s H E) body (tSs (gam Pg n) fn.dp W [] (fun cls d _ H => E cls d H) (fxOf fn.np fn.reb fn.ns) fn.body)) :
    FnG P w K mg base (k + 1) f (PySem.W.fnOf name qual params body scope dV kV doc pm an cdv ct) ps (spD W (callW Pg (n + 1) i)) := by
  rw [callW_succ hf]
  refine fn_G hl hc sc (fun vs H Q E h => ?_) fun A out s H vs Q E hg hr h => ⟨_, main A out s H E ⟨⟨hK, sc.nd, hg, ?_⟩, hr, rfl, passes_of rfl, takes_of rfl rfl rfl rfl⟩, (start_ok hN hp h).2⟩
  · rw [(start_ok hN hp h).1, hps]
  · have := hr.un
    show (A.deeper (envOfC qual scope s.heap.objs.size f cdv)).units + 67 < cLine
    omega
theorem law_callG {P : Program} {w : World} {K : PySem.W.Frag} {mg mb : Str → Option Value} {k : Nat} {fa a : Addr} {fd : FuncData} {x : Str} {sp : Sp} {s1 : Shared} {vs : List Value} {ns : List Int}
    (KIn : K.In s1.heap) (hnS : s1.heap.Ns mainGlobals mg) (hb : s1.heap.Ns builtinsNs mb) (hbB : ∀ x : Str, x ≠ "__name__" → mb x = bootBuiltins x) (hLim : s1.heap.NoLimit) (hg : s1.gens = #[])
    (ha : s1.heap.get? a = some { cls := .type "list", data := .seq vs.toArray }) (hi : IntsAre vs ns) (hl : ns.length ≤ sizeLine) (hr : Room k callerA)
    (F : ∀ base : Heap, K.In base → base.Ns mainGlobals mg → FnG P w K mg base k fa fd [x] sp) (hbnd : ∀ (s : Shared) (u : Value), BindsTo s fd ⟨[u], []⟩ [(x, u)])
    (hprom : ∀ H : Hp, Only H → SqL K H a (ns.map V.int) → sp [.ref a] H (fun v _ => v = .bl true) fun _ _ _ => False)
    (hcx : ∀ H e s2, L2.CX P w [] H s1 (fun _ _ _ => False) e s2 → False) :
    codeAny (model P w) callerA (.call (.ref fa) ⟨[.ref a], []⟩) (fun r s2 => r = .ok (.ret (.bool true)) ∧ OldK s1.heap s2.heap ∧ s2.os = s1.os ∧ AllBare s2.gens) s1 := by
  have rvs := vals_ints hi
  have lnV := hi.length
  -- from an abstract heap in which nothing but the script may be tracked
  have mainG : ∀ H : Hp, Only H → SqL K H a (ns.map V.int) → HOk P w H s1.heap → (∀ b, H b ≠ none → b = a) → (H a ≠ none → K.lookup a = none) →
      codeAny (model P w) callerA (.call (.ref fa) ⟨[.ref a], []⟩) (fun r s2 => r = .ok (.ret (.bool true)) ∧ OldK s1.heap s2.heap ∧ s2.os = s1.os ∧ AllBare s2.gens) s1 := by
    intro H hO hS okH hA hK
    have ofB : ∀ {b : Addr} {o : Obj}, s1.heap.get? b = some o → H b = none → (hidT s1.heap H).get? b = some o := fun e n => hidT_get e n
    have noD : ∀ {b : Addr} {o : Obj} {es : Array DictEntry} {ep : Nat}, s1.heap.get? b = some o → o.data = .dict es ep → H b = none := fun {b o es ep} e d => by
      cases q : H b with
      | none => rfl
      | some u =>
        have e' : b = a := hA b (by rw [q]; simp)
        subst e'
        rw [ha] at e; cases e
        have d' : Data.seq vs.toArray _ = Data.dict es ep := d
        cases d'
    have nsH : ∀ {b : Addr} {m : Str → Option Value}, s1.heap.Ns b m → (hidT s1.heap H).Ns b m := fun {b m} ⟨o, es, ep, e, d, r⟩ => ⟨o, es, ep, ofB e (noD e d), d, r⟩
    have kinB : K.In (hidT s1.heap H) := fun b o e => ofB (KIn b o e) (by
      cases q : H b with
      | none => rfl
      | some u =>
        have e' : b = a := hA b (by rw [q]; simp)
        subst e'
        rw [hK (by rw [q]; simp)] at e; cases e)
    have modB : Mod K mg (hidT s1.heap H) := ⟨kinB, nsH hnS, ⟨mb, nsH hb, hbB⟩, let ⟨mc, h1, h2⟩ := hLim; ⟨mc, nsH h1, h2⟩⟩
    have envB : Env0 P w K mg (hidT s1.heap H) callerA [] s1 H := ⟨rfl, modB, fun b o e => of_hidT e, Nat.le_of_eq (hidT_size _ _), trivial, fun b hb => absurd (show b ∈ ([] : List Addr) from hb) (by simp), okH, .of_eq hg⟩
    refine codeAny_mono ((F _ kinB (nsH hnS)).run callerA [] s1 H ⟨[.ref a], []⟩ [.ref a] [.ref a] _ _ rfl hr envB (hbnd s1 (.ref a)) (.cons rfl .nil) (hprom H hO hS)) fun r s2 h => ?_
    cases r with
    | error e => exact (hcx H e s2 h).elim
    | ok fl =>
      cases fl with
      | next => exact False.elim h
      | brk => exact False.elim h
      | cont => exact False.elim h
      | ret u =>
        obtain ⟨v, H', os, bare, unH, okH2, r', q⟩ := h
        have q' : v = .bl true := q
        subst q'
        obtain rfl : u = Value.bool true := r'
        refine ⟨rfl, OldK.of_keep fun b o e => ?_, os, bare⟩
        cases q : H b with
        | none => exact unH.keep b o e q (by intro z; exact absurd (show b ∈ ([] : List Addr) from z) (by simp)) (by simp)
        | some u =>
          rcases hO b with z | ⟨ob, xs, z⟩
          · rw [q] at z; cases z
          · have z2 := unH.frzs b ob _ z
            obtain ⟨e1, _⟩ := okH b _ z
            obtain ⟨e2, _⟩ := okH2 b _ z2
            rw [e] at e1; cases e1
            exact e2
  cases hkx : K.lookup a with
  | some o =>
    -- the script is one of the module's own objects
    have e := KIn a o hkx
    rw [ha] at e
    cases e
    refine mainG (fun _ => none) (fun _ => .inl rfl) (.inr ⟨_, vs.toArray, _, hkx, rfl, rfl, rfl, by rw [List.size_toArray, lnV]; exact hl, by simpa using rvs⟩) (fun b u z => by have z' : (none : Option HO) = some u := z; cases z') (fun b z => absurd rfl z) fun z => absurd rfl z
  | none =>
    refine mainG (fun b => if b = a then some (.frz { cls := .type "list", data := .seq vs.toArray } (.lst (ns.map V.int))) else none) (fun b => ?_) (.inl (.inr ⟨{ cls := .type "list", data := .seq vs.toArray }, if_pos rfl⟩)) (fun b u z => ?_) (fun b z => ?_) fun _ => hkx
    · by_cases hb : b = a
      · exact .inr ⟨_, _, if_pos hb⟩
      · exact .inl (if_neg hb)
    · by_cases hb : b = a
      · have z' := (if_pos hb).symm.trans z
        cases z'
        subst hb
        exact ⟨ha, by rw [List.length_map]; exact hl, vs, _, rvs, ha⟩
      · have z' := (if_neg hb).symm.trans z
        cases z'
    · by_cases hb : b = a
      · exact hb
      · exact absurd (if_neg hb) z
end QL
end
section
set_option linter.all false
set_option maxRecDepth 100000
set_option maxHeartbeats 2000000
/-! SX1: own errors whose __init__ keeps one value (the guide's block for such a class, turned to this program's classes); raised, caught, read. -/
namespace PySem
namespace LowX
open PySem.W PySem.Calls PyProof.Rows PySem.HandSPX
/-! ### the text of __init__ -/
def iA (p1 p2 : Pos) : Arguments := { posonlyargs := [], args := [{ arg := "self", annotation := none, pos := p1 }, { arg := "value", annotation := none, pos := p2 }], vararg := none, kwonlyargs := [], kw_defaults := [], kwarg := none, defaults := [] }
def iB (q1 q2 q3 q4 : Pos) : List Stmt := [.Assign [.Attribute (.Name "self" q1) "value" q2] (.Name "value" q3) q4]
def iS : Scope := { kind := .function, names := [(PySem.Str.ofString "self", .local), (PySem.Str.ofString "value", .local)], isGenerator := false, isCoroutine := false, more := [] }
/-- what the written part says of Low, at C, and of its __init__, at fI -/
structure LowTxt (cn : PySem.Str) (K : Frag) (mg : Str → Option Value) (C fI : Addr) : Prop where
  gC : mg cn = some (.ref C)
  cls : ∃ nm q N bs bm sn sub ab col dd k0 k1 k2 k3 k5, K.lookup C = some (excClassObj nm q C N bs bm true sn sub ab col dd k0 k1 k2 k3 k5 "ValueError.__new__") ∧ refsVE bm = true
  sa : findIn K (.ref C) "__setattr__" = some (some (.builtin "object.__setattr__"))
  ga : findIn K (.ref C) "__getattribute__" = some (some (.builtin "BaseException.__getattribute__"))
  gg : findIn K (.ref C) "__getattr__" = some none
  noN : findIn K (.ref C) "value" = some none
  iC : findIn K (.ref C) "__init__" = some (some (.ref fI))
  tC : typeIn K (.ref fI) = some (.type "function")
  kC : keepIn K (.ref C) = true
  exC : subIn K (.ref C) (.type "BaseException") = some true
  tyC : typeIn K (.ref C) = some (.type "type")
  hdC : hasDictIn K C = true
  te : exmOne K (.ref C) (.ref C) = some true
  fn : ∃ (oc : Value) (od : Option Addr) (kV doc pm : Value) (an : Option Addr) (cdv ct : Value) (osl : Array (Option Value)) (p1 p2 q1 q2 q3 q4 : Pos),
    K.lookup fI = some ⟨oc, od, .func (fnOf "__init__" "WorthError.__init__" (iA p1 p2) (iB q1 q2 q3 q4) iS .none kV doc pm an cdv ct), osl⟩ ∧ codeIn K cdv "WorthError.__init__" = true
theorem one_size (v : Value) : [v].length ≤ sizeLine := by
  rw [sizeLine_eq]
  exact (by decide : 1 ≤ 16777216)
theorem kept_but {K : Frag} {h h' : Heap} {x : Addr} (X : K.In h) (hx : K.lookup x = none) (k : ∀ b o, b ≠ x → h.get? b = some o → h'.get? b = some o) : K.In h' := fun a o e =>
  k a o (fun z => by rw [z, hx] at e; cases e) (X a o e)
theorem ldC {M : Model} {s : Shared} {name : Str} {scope : Scope} {L a : Addr} {cd : Value} {m : Str → Option Value} {x : Str} {pos : Pos} {v : Value} {Q : Value → Shared → Prop} {A : Around} {E : Value → Shared → Prop} (hn : s.heap.Ns L m) (hv : m x = some v) (h : Q v s)
    (hk : scope.kind = .function := by rfl) (hl : (envOfC name scope L a cd).kindOf x = some .local := by rfl) (hd : (x == ("__debug__" : Str)) = false := by decide) :
    wpAny M A (eval (.Name x pos) (envOfC name scope L a cd)) Q E s := wpAny_Name (wpAny_loadName_local hk hl hn hv h) hd
/-- what __init__ leaves of a fresh exception at x -/
structure InitEnd (h h' : Heap) (x C dx t1 : Addr) (v : Value) : Prop where
  keep : ∀ b o, b ≠ x → h.get? b = some o → h'.get? b = some o
  obj : h'.get? x = some { cls := .ref C, dict := some dx, data := .fields #[.ref t1, .none, .none, .none, .bool false, .none] }
  dbig : h.objs.size ≤ dx
  dne : dx ≠ x
  ns : h'.Ns1 dx (fun y => if y = "value" then some v else none)
/-- a made Low -/
structure OwnMade (h h' : Heap) (e C d : Addr) (v : Value) : Prop where
  keep : ∀ b o, h.get? b = some o → h'.get? b = some o
  new : h.objs.size ≤ e
  obj : ∃ oe vs, h'.get? e = some oe ∧ oe.cls = .ref C ∧ oe.dict = some d ∧ oe.data = .fields vs ∧ vs[1]? = some .none
  dbig : h.objs.size ≤ d
  dne : d ≠ e
  ns : h'.Ns1 d (fun y => if y = "value" then some v else none)
section
variable {prog : Program} {w : World} {A : Around} {E : Value → Shared → Prop} {R : Result → Shared → Prop} {s : Shared} {K : Frag} {mg : Str → Option Value} {C fI : Addr} {cn : PySem.Str}
theorem low_init (T : LowTxt cn K mg C fI) {x t0 : Addr} {v : Value} (X : K.In s.heap) (hlim : s.heap.NoLimit) (hx : s.heap.get? x = some (excO C t0)) (hnx : K.lookup x = none) (hroom : A.depth < recursionLimit)
    (hq : ∀ h' tk dx, InitEnd s.heap h' x C dx t0 v → R (.ok (.ret .none)) { s with heap := h', toks := tk }) :
    codeAny (model prog w) A (.call (.ref fI) ⟨[.ref x, v], []⟩) R s := by
  obtain ⟨oc, od, kV, doc, pm, an, cdv, ct, osl, p1, p2, q1, q2, q3, q4, ho, hcd⟩ := T.fn
  obtain ⟨nm, q, N, bs, bm, sn, sub, ab, col, dd, k0, k1, k2, k3, k5, hC, hbm⟩ := T.cls
  have hcl : clsIn K C = some { name := nm, bases := bs, mro := .ref C :: bm, ns := N, qualname := q, hasDict := true, slotNames := sn, subclasses := sub, abstract := ab, collection := col, hasDel := false } := by unfold clsIn; rw [hC] <;> rfl
  refine Att.call_fn (binds := [("self", .ref x), ("value", v)]) X hlim ho hcd hroom (BindsTo.of_eq (by first | rfl | with_unfolding_all rfl)) (by first | rfl | decide | with_unfolding_all rfl) (fun s₁ IC => ?_) rfl rfl rfl
  obtain ⟨h₁, tk₁, rfl⟩ := IC.toInCall.same
  have k : ∀ b o, s.heap.get? b = some o → h₁.get? b = some o := IC.toInCall.keep
  have hn := IC.toInCall.ns
  have hxL : s.heap.objs.size ≠ x := Nat.ne_of_gt (Heap.lt_size hx)
  have X₁ : K.In h₁ := X.keeps k
  have hx₁ := k _ _ hx
  -- self.by = by
  show wpAny _ _ (execs _ _) _ _ _
  refine wpAny_execs_cons (plainObj_wpAny_Assign_Attribute ?_)
  refine ldC (v := v) hn (by first | rfl | with_unfolding_all rfl | kernel_rfl) (ldC (v := .ref x) hn (by first | rfl | with_unfolding_all rfl | kernel_rfl) ?_)
  refine set_plain X₁ (ox := excO C t0) (od := none) ⟨hx₁, rfl, rfl, trivial⟩ T.sa ?_
  refine exc_osa X₁ hx₁ hcl (show refsVE (.ref C :: bm) = true from hbm) rfl T.noN (fun h₃ tk₃ dx k₃ dn dne hx₃ hn₃ => ?_)
  show wpAny _ _ (execs _ _) _ _ _
  have z : s.heap.objs.size < h₁.objs.size := hn.lt
  exact wpAny_execs_nil (hq h₃ tk₃ dx ⟨fun b o hb e => k₃ b o hb (k b o e), hx₃, Nat.le_of_lt (Nat.lt_of_lt_of_le z dn), dne, hn₃⟩)
theorem low_made (T : LowTxt cn K mg C fI) {v : Value} (X : K.In s.heap) (hlim : s.heap.NoLimit) (hroom : A.depth + 1 < recursionLimit)
    (hq : ∀ h' tk e d, OwnMade s.heap h' e C d v → R (.ok (.ret (.ref e))) { s with heap := h', toks := tk }) :
    codeAny (model prog w) A (.call (.ref C) ⟨[v], []⟩) R s := by
  obtain ⟨nm, q, N, bs, bm, sn, sub, ab, col, dd, k0, k1, k2, k3, k5, hC, hbm⟩ := T.cls
  obtain ⟨hp, g, dr, tk, os⟩ := s
  have k : ∀ b o, hp.get? b = some o → ((hp.push (kdv_tup [v])).push (excO C hp.objs.size)).get? b = some o := fun b o e => Heap.get?_push_of_some _ (Heap.get?_push_of_some _ e)
  have hget : ((hp.push (kdv_tup [v])).push (excO C hp.objs.size)).get? (hp.objs.size + 1) = some (excO C hp.objs.size) := by heap_get
  have hnx : K.lookup (hp.objs.size + 1) = none := by
    cases e : K.lookup (hp.objs.size + 1) with
    | none => rfl
    | some o =>
      have z : hp.get? (hp.objs.size + 1) = some o := X _ _ e
      exact absurd (Nat.lt_of_succ_lt (Heap.lt_size z)) (Nat.lt_irrefl _)
  refine call_own F.excBase_ValueError (fun X => refsVE_contains X bm hbm) (X _ _ hC) (looks_findIn X T.iC) (fun self => bind_fn X self T.tC) (one_size v) ?_
  refine low_init (s := ⟨(hp.push (kdv_tup [v])).push (excO C hp.objs.size), g, dr, tk, os⟩) T (X.keeps k) (hlim.keeps k) hget hnx ?_ fun h' tk' dx ⟨k', hx, dn, dne, hns⟩ => ?_
  · show A.depth + 1 < recursionLimit
    exact hroom
  · have old : ∀ b o, hp.get? b = some o → h'.get? b = some o := fun b o e => k' b o (Nat.ne_of_lt (Nat.lt_succ_of_lt (Heap.lt_size e))) (k b o e)
    have z : hp.objs.size + 1 + 1 ≤ dx := by
      first
        | (simpa only [Heap.size_push] using dn)
        | exact dn
        | (have q := dn; rw [Heap.size_push, Heap.size_push] at q; exact q)
    exact ⟨rfl, hq h' tk' (hp.objs.size + 1) dx ⟨old, Nat.le_succ _, ⟨_, _, hx, rfl, rfl, rfl, rfl⟩, Nat.le_trans (Nat.le_trans (Nat.le_succ _) (Nat.le_succ _)) z, dne, hns⟩⟩
end
end LowX
end PySem
namespace L2
open PySem PySem.Spec PyProof.Rows
theorem relO_low {v : V} {v' : Value} (r : RelV v v') (f : Str) : RelO (List.lookup f [(("value" : Str), v)]) (if f = "value" then some v' else none) := by
  by_cases hw : f = "value"
  · subst hw
    rw [if_pos rfl]
    have q : List.lookup ("value" : Str) [(("value" : Str), v)] = some v := by simp [List.lookup]
    rw [q]
    exact r
  · rw [if_neg hw]
    have qw : (f == ("value" : Str)) = false := by simpa using hw
    have q2 : List.lookup f [(("value" : Str), v)] = none := by simp [List.lookup, qw]
    rw [q2]
    trivial
section
variable {X : Cx} {C fI : Addr} {cn : PySem.Str}
/-- Low(e) -/
def tMkLow (C : Addr) (ta : TA) : St → Hp → XK → Prop := fun σ H Q => ta σ H fun vs H1 => ∃ v, vs = [v] ∧ ∀ d, H1 d = none → Q (.ref C) (some d) (upd H1 d (.xd [(("value" : Str), v)]))
theorem pmk_low {a : Expr} {ta : TA} {p pos : Pos} {k : Nat} (T : PySem.LowX.LowTxt cn X.K X.mg C fI) (hr : Room k X.A) (ha : PA X [a] ta) (hg : Gl X cn := by rfl) (hdb : (cn == ("__debug__" : PySem.Str)) = false := by decide)
    (he : starEach (a :: []) X.env = (false, eval a X.env) :: starEach [] X.env := by rfl) (hpl : (backTo pos (starEach [] X.env)).any (·.1) = false := by rfl) :
    PMk X (.Call (.Name cn p) [a] [] pos) (tMkLow C ta) := by
  intro pins s σ H Q I h
  refine wpAny_Call_Name_kw (ld_glob I hg T.gC ?_ hdb)
  refine PySem.W.callWith_K (h₀ := X.base) I.ok.mod.kin T.kC (thn (ha.run pos pins s σ H _ I h) fun us s1 hh => ?_) he hpl
  obtain ⟨vs, H1, I1, r1, v, ev, q1⟩ := hh
  subst ev
  refine ⟨I1.kIn, ?_⟩
  cases r1 with
  | cons rv rn =>
    rename_i v' us'
    cases rn
    show wpAny _ _ (call (.ref C) [v']) _ _ _
    have hlim := I1.nolimit
    obtain ⟨hp, g, dr, tk, os⟩ := s1
    refine wpAny_call (PySem.LowX.low_made T I1.kIn hlim (by have := hr.dp; omega) fun h' tk' e d M => ?_)
    show MkP X pins σ Q (.ref e) ⟨h', g, dr, tk', os⟩
    obtain ⟨oe, fv, hoe, hc, hd, hdat, h1⟩ := M.obj
    have hns := M.ns
    obtain ⟨G', g1, g2⟩ := restrict h' fun b => decide (b ≠ e)
    have gk : ∀ b, b ≠ e → G'.get? b = h'.get? b := fun b hb => g1 b (decide_eq_true hb)
    have ge : G'.get? e = none := g2 e (by simp)
    have old : ∀ b o, hp.get? b = some o → G'.get? b = some o := fun b o q => (gk b (Nat.ne_of_lt (Nat.lt_of_lt_of_le (Heap.lt_size q) M.new))).trans (M.keep b o q)
    have ob : ObjOk X.prog X.w (upd H1 d (.xd [(("value" : Str), v)])) G' d (.xd [(("value" : Str), v)]) :=
      ⟨_, hns.at (fun o q => (gk d M.dne).trans q), fun f => relO_low rv f⟩
    have J : Inv X pins σ (upd H1 d (.xd [(("value" : Str), v)])) ⟨G', g, dr, tk', os⟩ := I1.laid (t' := tk') old M.dbig ob
    refine ⟨e, oe, fv, ⟨G', g, dr, tk', os⟩, _, .ref C, some d, rfl, J, fun b o q => ?_, ge, hoe, ⟨hc, hd⟩, hdat, h1, ?_, rfl, I1.bare, raises_own T.exC T.tyC, q1 d (I1.hok.fresh M.dbig)⟩
    · by_cases hb : b = e
      · have q' : G'.get? b = some o := q
        rw [hb, ge] at q'; cases q'
      · exact (gk b hb).symm.trans q
    · rw [upd_ne (Ne.symm M.dne)]
      exact I1.hok.fresh M.new
/-- raise Low(e) -/
def tRaiseLow (C : Addr) (W : WX) (ta : TA) : TS := fun _ σ H => tMkLow C ta σ H fun cls d H' => W cls d σ H'
theorem ps_raiseLow {a : Expr} {ta : TA} {W : WX} {p pos pos2 : Pos} {k : Nat} (hc : X.calm = true) (T : PySem.LowX.LowTxt cn X.K X.mg C fI) (hr : Room k X.A) (tk : Takes X W) (ha : PA X [a] ta) (hg : Gl X cn := by rfl) (hdb : (cn == ("__debug__" : PySem.Str)) = false := by decide)
    (he : starEach (a :: []) X.env = (false, eval a X.env) :: starEach [] X.env := by rfl) (hpl : (backTo pos (starEach [] X.env)).any (·.1) = false := by rfl) :
    PS X (.Raise (some (.Call (.Name cn p) [a] [] pos)) none pos2) (tRaiseLow C W ta) := ps_raise hc tk (pmk_low T hr ha hg hdb he hpl)
/-- low.by, low the exception that the suite holds (at a; its class cls, its dict d) -/
def tByLow (C : Addr) (a : Addr) (cls : Value) (d : Option Addr) (te : TE) : TE := fun σ H Q => te σ H fun x H1 => x = .ref a ∧ cls = .ref C ∧ ∃ (dd : Addr) (v : V), d = some dd ∧ H1 dd = some (.xd [(("value" : Str), v)]) ∧ Q v H1
theorem pe_byLow {a : Addr} {oe : Obj} {cls : Value} {d : Option Addr} {pn : List (Addr × Obj)} {e : Expr} {te : TE} {pos : Pos} (T : PySem.LowX.LowTxt cn X.K X.mg C fI) (hz : Zc cls d oe) (hf : ∃ vs, oe.data = .fields vs) (he : PE (X.suite a ((a, oe) :: pn)) e te)
    (hb : attributeBase e "value" X.env (eval e X.env) = eval e X.env := by rfl) :
    PE (X.suite a ((a, oe) :: pn)) (.Attribute e "value" pos) (tByLow C a cls d te) := by
  refine ⟨fun pins s σ H Q I h => ?_⟩
  refine attr_of hb (thn (he.run pins s σ H _ I h) fun u s1 hh => ?_)
  obtain ⟨x, H1, I1, rx, ex, ec, dd, v, ed, ea, q⟩ := hh
  subst ex
  obtain rfl : u = Value.ref a := rx
  subst ec
  subst ed
  obtain ⟨ha, _⟩ := I1.pin (a, oe) (List.mem_append_left _ List.mem_cons_self)
  obtain ⟨vs, hd⟩ := hf
  have hx : ObjOk X.prog X.w H1 s1.heap dd (.xd [(("value" : Str), v)]) := I1.hok dd _ ea
  obtain ⟨mA, hns, hr⟩ := hx
  obtain ⟨od, ho, hl⟩ := lookIn_ns hns
  have l : List.lookup ("value" : Str) [(("value" : Str), v)] = some v := by simp [List.lookup]
  obtain ⟨u, hu, ru⟩ := RelO.some_of (v := v) (o := mA "value") (by rw [← l]; exact hr "value")
  have J : PySem.W.InstAt s1.heap a oe C (some od) := ⟨ha, hz.1, by unfold PySem.W.notCls; rw [hd] <;> rfl, by rw [hz.2]; exact ho⟩
  exact HandSPX.exc_get I1.kIn J T.ga T.gg T.exC (PySem.W.findObj_own T.hdC T.noN rfl (by rw [hl, hu])) (handed_of ru) ⟨v, H1, I1.tok _, ru, q⟩
end
end L2

namespace QL
open PySem PySem.Spec PyProof.Rows L2
section
variable {Γ : Ctx} {dp : Bool} {W : Wd} {En : List (Addr × Nat × Addr)} {Wx : WX} {fx : Nat → Bool} {X : Cx} {k : Nat} {a b c e o tg iter : Expr} {es : List Expr} {a' b' c' e' o' : QL.E} {es' : Es} {p p2 pos apos cpos : Pos} {x : Str}
theorem q_raise {cn : PySem.Str} {cc : Nat} {C fI : Addr} (Cx : XC W Wx X k) (hc : W.cls cc = some C) (hv : W.fld f_value = "value") (T : PySem.LowX.LowTxt cn X.K X.mg C fI) (ha : PE X a (tE Γ dp W En Wx a')) (hg : Gl X cn := by rfl) (hdb : (cn == ("__debug__" : PySem.Str)) = false := by decide)
    (he : starEach (a :: []) X.env = (false, eval a X.env) :: starEach [] X.env := by rfl) (hpl : (backTo pos (starEach [] X.env)).any (·.1) = false := by rfl) :
    PS X (.Raise (some (.Call (.Name cn p) [a] [] pos)) none p2) (tS Γ dp W En Wx fx (.raise cc a')) :=
  PS.of (ps_raiseLow Cx.cm T Cx.rm Cx.tk (pa_cons ha pa_nil he) hg hdb he hpl) fun D σ H h => by
    have h := i_raise h
    refine tE_mono h fun v H1 h => ⟨v, rfl, fun d hd => ?_⟩
    have := h C hc d hd
    rw [hv] at this
    exact this
end
end QL
end
section
set_option linter.all false
set_option maxRecDepth 100000
set_option maxHeartbeats 2000000
/-! SX2: try with one named clause; the caught error's value; calls with keywords. -/
namespace QL
open PySem PySem.Spec PyProof.Rows L2
section
variable {Γ : Ctx} {dp : Bool} {W : Wd} {En : List (Addr × Nat × Addr)} {Wx : WX} {fx : Nat → Bool} {X : Cx} {k : Nat} {e o : Expr} {es : List Expr} {e' o' : QL.E} {es' : Es} {p p2 pos apos cpos : Pos} {x : Str}
theorem XC.tr {W' : WX} {pn : List (Addr × Obj)} {xe : Value → Shared → Prop} (C : XC W Wx X k) (tk : Takes (X.tr pn xe) W') (po : PassesOwn (model X.prog X.w) X.A X.env xe) : XC W W' (X.tr pn xe) k := ⟨⟨C.hK, C.nd, C.gu, C.un⟩, C.rm, C.cm, po, tk⟩
theorem XB.suite {a : Addr} {pn : List (Addr × Obj)} (B : XB W X) : XB W (X.suite a pn) := ⟨B.hK, B.nd, B.gu, B.un⟩
theorem q_tryAs {n : Str} (i : Nat) {cd : Nat} {Cd : Value} {body suite : List Stmt} {b0 : Stmt} {np pos2 : Pos} {b' su' : Ss} (Cx : XC W Wx X k) (hc : Names X x Cd) (hx : ∀ c C, W.cls c = some C → PySem.W.exmOne W.K (.ref C) Cd = some (Γ.sub c cd))
    (hb : ∀ (W' : WX) (pn : List (Addr × Obj)) (xe : Value → Shared → Prop), XC W W' (X.tr pn xe) k → PSs (X.tr pn xe) body (tSs Γ dp W En W' fx b'))
    (hsu : ∀ (a : Addr) (oe : Obj) (pn : List (Addr × Obj)) (c : Nat) (C dd : Addr), W.cls c = some C → Zc (.ref C) (some dd) oe → (∃ vs, oe.data = .fields vs) → XB W (X.suite a ((a, oe) :: pn)) → PSs (X.suite a ((a, oe) :: pn)) (b0 :: suite) (tSs Γ dp W ((a, c, dd) :: En) wF fx su'))
    (hst : X.stack = X.env :: X.outer := by rfl) (hfr : X.env.frame = some X.env.locals := by rfl) (hfx : fx i = false := by rfl) (hi : X.N[i]? = some n := by rfl) (hln : X.env.kindOf n = some .local := by rfl) :
    PS X (.Try body [.ExceptHandler (some (.Name x np)) (some n) (b0 :: suite) pos2] [] [] p) (tS Γ dp W En Wx fx (.tr b' (.cons [cd] (some i) su' .nil))) :=
  PS.of (ps_try_as (tb := fun W' => tSs Γ dp W En W' fx b') (ts := tSu Γ dp W En fx su') (Wout := Wx) hst hfr Cx.nd hi hln hc Cx.tk (fun W' pn xe tk po => hb W' pn xe (Cx.tr tk po)) fun a oe cls d pn hz hf => ⟨fun pins s σ H D I h => by
      obtain ⟨c, C, dd, h1, rfl, rfl, h⟩ := h
      exact (hsu a oe pn c C dd h1 hz hf Cx.toXB.suite).run pins s σ H D I h⟩) fun D σ H h => by
    show tSs Γ dp W En (wAs X.K Cd i (tSu Γ dp W En fx su') Wx D) fx b' D σ H
    rw [Cx.hK]
    exact i_tryAs hfx hx h
/-- the value of a caught error -/
theorem lowVal {a C dd fI : Addr} {oe : Obj} {pn pins : List (Addr × Obj)} {σ : L2.St} {H : Hp} {s : Shared} {Q : VK} {v : V} {cn : PySem.Str} (T : PySem.LowX.LowTxt cn X.K X.mg C fI) (hz : Zc (.ref C) (some dd) oe) (hf : ∃ vs, oe.data = .fields vs) (I : Inv (X.suite a ((a, oe) :: pn)) pins σ H s) (ea : H dd = some (.xd [(("value" : Str), v)])) (q : Q v H) :
    wpAny (model X.prog X.w) (X.A.mark (some (.ref a))) (getAttr (.ref a) "value" true) (EP (X.suite a ((a, oe) :: pn)) pins σ Q) (fun _ _ => False) s := by
  obtain ⟨ga, _⟩ := I.pin (a, oe) (List.mem_append_left _ List.mem_cons_self)
  obtain ⟨ws, dat⟩ := hf
  obtain ⟨mA, ns, rel⟩ := (show ObjOk X.prog X.w H s.heap dd (.xd [(("value" : Str), v)]) from I.hok dd _ ea)
  obtain ⟨od, ho, look⟩ := lookIn_ns ns
  have lv : List.lookup ("value" : Str) [(("value" : Str), v)] = some v := by simp [List.lookup]
  obtain ⟨u, hu, ru⟩ := RelO.some_of (v := v) (o := mA "value") (by rw [← lv]; exact rel "value")
  have inst : PySem.W.InstAt s.heap a oe C (some od) := ⟨ga, hz.1, by unfold PySem.W.notCls; rw [dat] <;> rfl, by rw [hz.2]; exact ho⟩
  exact HandSPX.exc_get I.kIn inst T.ga T.gg T.exC (PySem.W.findObj_own T.hdC T.noN rfl (by rw [look, hu])) (handed_of ru) ⟨v, H, I.tok _, ru, q⟩
theorem q_exv {a : Addr} {oe : Obj} {pn : List (Addr × Obj)} {c : Nat} {C dd : Addr} (T : ∀ c C, W.cls c = some C → ∃ cn fI, PySem.LowX.LowTxt cn X.K X.mg C fI) (FI : ∀ c C, W.ins c = some C → Cls X.K C ∧ NoAttr X.K C "value") (hp : ∀ c, Γ.prop c f_value = none) (hv : W.fld f_value = "value")
    (hC : W.cls c = some C) (hz : Zc (.ref C) (some dd) oe) (hf : ∃ vs, oe.data = .fields vs) (he : PE (X.suite a ((a, oe) :: pn)) e (tE Γ dp W [(a, c, dd)] wF e')) (hb : attributeBase e "value" X.env (eval e X.env) = eval e X.env := by rfl) :
    PE (X.suite a ((a, oe) :: pn)) (.Attribute e "value" p) (tE Γ dp W [(a, c, dd)] wF (.fld e' f_value)) := by
  refine ⟨fun pins s σ H Q I h => ?_⟩
  refine attr_of hb (thn (he.run pins s σ H _ I (i_fld h)) fun u s1 ⟨y, H1, I1, ry, q⟩ => ?_)
  rcases q with ⟨c, C, a0, dx, fs, v, rfl, hc, hh, _, hl, q⟩ | ⟨g, c, C, a0, dx, fs, rfl, hc, hh, hp', sp⟩ | ⟨_, a0, c0, d0, v, hE, rfl, hh, q⟩
  · obtain rfl : u = Value.ref a0 := ry
    obtain ⟨cl, na⟩ := FI c C hc
    rw [hv] at hl
    exact getattr_ok I1 hh cl na hl fun u' s2 I2 ru => ⟨v, H1, I2, ru, q⟩
  · rw [hp c] at hp'
    cases hp'
  · obtain rfl : u = Value.ref a0 := ry
    have hE : (a0, c0, d0) = (a, c, dd) := by simpa using hE
    cases hE
    obtain ⟨cn, fI, t⟩ := T c C hC
    rw [hv] at hh
    exact lowVal t hz hf I1 hh q
/-! #### arguments by name -/
/-- what came, each with its own -/
inductive RSn (W : Wd) (r : Wr) : List SV → List V → List (List Addr) → Prop
  | nil : RSn W r [] [] []
  | cons {s : SV} {ss : List SV} {v : V} {vs : List V} {fp : List Addr} {fps : List (List Addr)} (q : RS W r v fp s) (t : RSn W r ss vs fps) : RSn W r (s :: ss) (v :: vs) (fp :: fps)
theorem RSs.toN {r : Wr} : ∀ {ss : List SV} {vs : List V} {fp : List Addr}, RSs W r ss vs fp → ∃ fps, RSn W r ss vs fps ∧ ∀ a, fps.flatten.count a = fp.count a
  | _, _, _, .nil => ⟨[], .nil, by simp⟩
  | _, _, _, .cons (fp := fp) q t => by
    obtain ⟨fps, n, c⟩ := RSs.toN t
    exact ⟨fp :: fps, .cons q n, fun a => by rw [List.flatten_cons, List.count_append, List.count_append, c a]; omega⟩
theorem RSn.get {r : Wr} : ∀ {ss : List SV} {vs : List V} {fps : List (List Addr)} {i : Nat} {s : SV}, RSn W r ss vs fps → ss[i]? = some s → ∃ v fp, vs[i]? = some v ∧ fps[i]? = some fp ∧ RS W r v fp s
  | _, _, _, _, _, .nil, h => by simp at h
  | _, _, _, 0, _, .cons q _, h => by simp at h; subst h; exact ⟨_, _, rfl, rfl, q⟩
  | _, _, _, i + 1, s, .cons _ t, h => by
    obtain ⟨v, fp, a, b, c⟩ := RSn.get (i := i) (s := s) t (by simpa using h)
    exact ⟨v, fp, by simpa using a, by simpa using b, c⟩
theorem picks_ex {r : Wr} {ss : List SV} {vs : List V} {fps : List (List Addr)} (n : RSn W r ss vs fps) : ∀ {perm : List Nat} {K : List SV → Prop}, picks ss perm K → ∃ l fq, K l ∧ RSs W r l (pk perm vs) fq ∧ ∀ a, fq.count a = ((perm.filterMap fun i => fps[i]?).flatten).count a
  | [], K, g => ⟨[], [], g, .nil, by simp⟩
  | i :: perm, K, g => by
    obtain ⟨s, es, g⟩ := nthL_ex (show nthL ss i _ from g)
    obtain ⟨l, fq, k, q, ct⟩ := picks_ex n g
    obtain ⟨v, fp, e1, e2, rs⟩ := n.get es
    refine ⟨s :: l, fq ++ fp, k, ?_, fun a => ?_⟩
    · rw [pk_cons, e1]
      exact .cons rs q
    · rw [List.filterMap_cons, e2, List.flatten_cons, List.count_append, List.count_append, ct a]
      omega
theorem filterMap_ext {α β : Type} {f g : α → Option β} : ∀ {l : List α}, (∀ x ∈ l, f x = g x) → l.filterMap f = l.filterMap g
  | [], _ => rfl
  | x :: l, h => by
    rw [List.filterMap_cons, List.filterMap_cons, h x (List.mem_cons_self), filterMap_ext fun y hy => h y (List.mem_cons_of_mem _ hy)]
theorem pick_cnt : ∀ {perm : List Nat} {fps : List (List Addr)}, perm.Nodup → ∀ a, ((perm.filterMap fun i => fps[i]?).flatten).count a ≤ fps.flatten.count a
  | [], fps, _, a => by simp
  | i :: perm, fps, nd, a => by
    have nd' := List.nodup_cons.mp nd
    rw [List.filterMap_cons]
    cases e : fps[i]? with
    | none => exact pick_cnt nd'.2 a
    | some f =>
      obtain ⟨oth, p, s⟩ := flat_set e
      have ih := pick_cnt (fps := fps.set i []) nd'.2 a
      have e2 : (perm.filterMap fun j => (fps.set i [])[j]?) = perm.filterMap fun j => fps[j]? := by
        refine filterMap_ext fun j hj => ?_
        rw [List.getElem?_set_ne fun z => nd'.1 (by rw [z]; exact hj)]
      rw [e2, (s []).count_eq a] at ih
      rw [List.flatten_cons, List.count_append, p.count_eq a, List.count_append]
      simp only [List.append_nil] at ih
      omega
theorem Nx.cnt {E : List (Addr × Nat × Addr)} {r r1 : Wr} {fp0 fp fq : List Addr} {σ1 : QL.Env} (n : Nx W E r fp0 σ1 r1 fp) (h : ∀ a, fq.count a ≤ fp.count a) : Nx W E r fp0 σ1 r1 fq := by
  have mem : ∀ a ∈ fq, a ∈ fp := fun a ha => cnt_mem h ha
  refine ⟨n.σ, n.er, n.w, n.st.sub fun a ha => ?_, ⟨cnt_nodup (fun a => ?_) n.sep.nd, fun a ha => n.sep.nf a (mem a ha)⟩⟩
  · exact (List.mem_append.mp ha).elim (fun z => List.mem_append_left _ z) fun z => List.mem_append_right _ (mem a z)
  · rw [List.count_append, List.count_append]
    have := h a
    omega
theorem perm_ex {E : List (Addr × Nat × Addr)} {r r1 : Wr} {fp0 fp : List Addr} {σ1 : QL.Env} {svs : List SV} {vs : List V} {perm : List Nat} {K : List SV → Prop} (n : Nx W E r fp0 σ1 r1 fp) (q : RSs W r1 svs vs fp) (nd : perm.Nodup) (ne : perm ≠ []) (g : permW perm svs K) :
    ∃ l fq, K l ∧ RSs W r1 l (pk perm vs) fq ∧ Nx W E r fp0 σ1 r1 fq := by
  obtain ⟨fps, rn, c⟩ := q.toN
  have g : picks svs perm K := by
    cases perm with
    | nil => exact absurd rfl ne
    | cons i perm => exact g
  obtain ⟨l, fq, k, ql, ct⟩ := picks_ex rn g
  exact ⟨l, fq, k, ql, n.cnt fun a => by rw [ct a, ← c a]; exact pick_cnt nd a⟩
/-- arguments, one by one -/
def tKs (Γ : Ctx) (dp : Bool) (W : Wd) (En : List (Addr × Nat × Addr)) (Wx : WX) : Es → TA
  | .nil => tNil
  | .cons _ e r => tCons (tE Γ dp W En Wx e) (tKs Γ dp W En Wx r)
theorem i_ks : ∀ {es : Es} {σ : L2.St} {H : Hp} {Q : List V → Hp → Prop}, tA Γ dp W En Wx es σ H Q → tKs Γ dp W En Wx es σ H fun vs H1 => vs.length = es.num ∧ Q vs H1
  | .nil, σ, H, Q, h => ⟨rfl, i_anil h⟩
  | .cons s e r, σ, H, Q, h => tE_mono (i_acons h) fun v H1 h => ks_mono (i_ks h) fun vs H2 ⟨e, q⟩ => ⟨by simp [e, Es.num], q⟩
where
  ks_mono : ∀ {es : Es} {σ : L2.St} {H : Hp} {Q Q' : List V → Hp → Prop}, tKs Γ dp W En Wx es σ H Q → (∀ vs H, Q vs H → Q' vs H) → tKs Γ dp W En Wx es σ H Q'
    | .nil, _, _, _, _, h, m => m _ _ h
    | .cons _ e _, σ, H, _, _, h, m => by
      unfold tKs tCons at h ⊢
      exact tE_mono h fun v H1 h => ks_mono h fun vs H2 q => m _ _ q
theorem q_k0 : PK X [] (tKs Γ dp W En Wx .nil) := L2.pk_nil
theorem q_k1 {nm : Option Str} {kpos : Pos} {kws : List Keyword} {b : Bool} (ha : PE X e (tE Γ dp W En Wx e')) (hr : PK X kws (tKs Γ dp W En Wx es')) : PK X (⟨nm, e, kpos⟩ :: kws) (tKs Γ dp W En Wx (.cons b e' es')) := L2.pk_cons ha hr
theorem q_makeK {c i : Nat} {C f : Addr} {fd : FuncData} {ps ks : List Str} {perm : List Nat} {kws : List Keyword} {p0 : Pos} (Cx : XC W Wx X (k + 1)) (hi : Γ.init c = some i) (hc : W.ins c = some C) (M : Mk X.K C f) (F : FnG X.prog X.w X.K X.mg X.base k f fd ps (spD W (Γ.call i))) (hm : X.mg x = some (.ref C))
    (hb : ∀ (s : Shared) (y : Value) (ws : List Value), ws.length = ks.length → BindsTo s fd ⟨[y], ks.zip ws⟩ (ps.zip (y :: pk perm ws))) (hkw : PK X kws (tKs Γ dp W En Wx es')) (hn : es'.num = ks.length := by rfl) (hpn : perm.Nodup := by decide) (hpe : perm ≠ [] := by decide) (hg : Gl X x := by rfl)
    (hall : (backToKw p (keywordEach kws X.env)).all (·.1.isSome) = true := by rfl) (hks : (backToKw p (keywordEach kws X.env)).filterMap (·.1) = ks := by rfl) (hdb : (x == ("__debug__" : Str)) = false := by decide)
    (hpl : ((backTo p (starEach [] X.env)).any (·.1) || (backToKw p (keywordEach kws X.env)).any (·.1.isNone)) = false := by rfl) :
    PE X (.Call (.Name x p0) [] kws p) (tE Γ dp W En Wx (.make c es' perm)) :=
  PE.of (r_makeK (perm := perm) M F Cx.rm Cx.gu hg hm hb (fun σ => passAt Cx.tk σ) hkw hall hks hdb hpl) fun σ H Q h => by
    have z : tA Γ dp W En Wx es' σ H fun vs H1 => mkSp C (spD W (Γ.call i)) (pk perm vs) H1 Q (WE Wx σ) := by
      obtain ⟨r, rfl, er, pre, X, K, ev, hX, hK⟩ := h
      refine ⟨r, rfl, er, pre, X, _, ev, hX, fun svs σ' g r1 e vs fp n1 qs => ?_⟩
      subst e
      obtain ⟨l, fq, g, ql, n2⟩ := perm_ex n1 qs hpn hpe g
      exact make_ok hi n2 ql g hX (fun sv σ' k => hK sv σ' k) C hc
    exact i_ks.ks_mono (i_ks z) fun vs H1 ⟨e, q⟩ => ⟨e.trans hn, q⟩
end
end QL
end
section
set_option linter.all false
set_option maxRecDepth 100000
set_option maxHeartbeats 2000000
/-! SX3: slots forgotten behind a statement. -/
namespace QL
open PySem PySem.Spec PyProof.Rows L2
section
variable {Γ : Ctx} {dp : Bool} {W : Wd} {E : List (Addr × Nat × Addr)} {Wx : WX} {fx : Nat → Bool} {X : Cx} {r : Wr} {σV : L2.St} {H : Hp} {D : Ends}
theorem wipeS_ex : ∀ {l : List Nat} {r : Wr} {K : QL.Env → Prop}, ER W E r → wipeW l r.σ K → ∃ r', Lat W E fx r r' ∧ r'.w = r.w ∧ K r'.σ ∧ r'.H = r.H
  | [], r, K, h, g => ⟨r, .refl h, rfl, g, rfl⟩
  | i :: l, r, K, h, g => by
    have g : mapW (clr i) r.σ fun σ1 => setW none i σ1 fun σ2 => wipeW l σ2 K := g
    have hi : i < r.σ.length := by
      obtain ⟨hi, _⟩ := setW_ex (mapW_eq g)
      simpa using hi
    have hw : i < r.w.length := by rw [h.lw]; exact hi
    obtain ⟨_, r1, nw, k, eH, _⟩ := clearW_ex h (y := r.w[i]) g
    obtain ⟨r2, l2, ew, k2, eH2⟩ := wipeS_ex nw.er k
    have e1 : r1.w = r.w := by rw [nw.w, List.set_getElem_self]
    refine ⟨r2, Lat.trans ⟨nw.er, by rw [e1], fun _ _ => by rw [e1], ?_⟩ l2, by rw [ew, e1], k2, by rw [eH2, eH]⟩
    exact nw.st.nil0
theorem i_wipe {l : List Nat} {s : QL.S} (h : tS Γ dp W E Wx fx (.wipe l s) D σV H) : tS Γ dp W E Wx fx s D σV H := by
  obtain ⟨r, rfl, er, pre, Dp, ev, en⟩ := h
  refine ⟨r, rfl, er, pre, _, ev, ?_⟩
  exact ⟨fun σ' h r' es l' σV' p hl => by
    subst es
    obtain ⟨r2, l2, ew, k, eH⟩ := wipeS_ex (fx := fx) l'.er h
    rw [← eH]
    exact en.nx _ k r2 rfl (l'.trans l2) σV' (by rw [ew]; exact p) hl, en.rt, en.bk, en.ct, en.ex⟩
theorem q_wipe {l : List Nat} {st : Stmt} {s : QL.S} (h : PS X st (tS Γ dp W E Wx fx s)) : PS X st (tS Γ dp W E Wx fx (.wipe l s)) := PS.of h fun _ _ _ h => i_wipe h
end
end QL
end
section
set_option linter.all false
set_option maxRecDepth 100000
set_option maxHeartbeats 2000000
/-! SG1: what the top leaves, told by a Bool; the law's end. -/
namespace QL
open PySem PySem.Spec PyProof.Rows L2
open He (ga ma ba)

/-! ### the hook -/
/-- a property's getter -/
def pg (K : PySem.W.Frag) (C : Addr) (f : Str) : Addr := match PySem.W.recIn K (ma K C f) "property" with
  | some (.ref g :: _) => g
  | _ => 0
/-- where a def stands: a name of the module; a class's method; a class's property -/
inductive At where
  | g (x : Str)
  | m (c x : Str)
  | p (c x : Str)
def At.adr (K : PySem.W.Frag) : At → Addr
  | .g x => ga K x
  | .m c x => ma K (ga K c) x
  | .p c x => pg K (ga K c) x
/-- one def, of no default -/
structure DF where
  at_ : At
  name : Str
  qual : Str
  params : Arguments
  body : List Stmt
  scope : Scope
abbrev FnV : Type := Option (Str × Str × Arguments × FuncBody × Scope × Addr × List (Str × Addr) × Addr)
def fnV (K : PySem.W.Frag) (a : Addr) : FnV := match K.lookup a with
  | some ⟨_, _, .func fd, _⟩ => some (fd.name, fd.qualname, fd.params, fd.body, fd.scope, fd.globals, fd.closure, fd.builtins)
  | _ => none
def DF.val (d : DF) : FnV := some (d.name, d.qual, d.params, .stmts d.body, d.scope, mainGlobals, [], builtinsNs)
def DF.ok (K : PySem.W.Frag) (d : DF) : Bool := PySem.W.keepIn K (.ref (d.at_.adr K)) && (match K.lookup (d.at_.adr K) with
  | some ⟨_, _, .func fd, _⟩ => PySem.W.codeIn K fd.code d.qual && He.dflB K fd.defaults []
  | _ => false)
def fdOf (K : PySem.W.Frag) (a : Addr) : FuncData := match K.lookup a with
  | some ⟨_, _, .func fd, _⟩ => fd
  | _ => default
theorem DF.funD {K : PySem.W.Frag} {d : DF} (e : fnV K (d.at_.adr K) = d.val) (c : d.ok K = true) : FunD K d.name d.qual d.params d.body d.scope [] [] (d.at_.adr K) (fdOf K (d.at_.adr K)) := by
  obtain ⟨kp, c2⟩ := ba c
  unfold fnV at e
  unfold fdOf
  cases q : K.lookup (d.at_.adr K) with
  | none =>
    rw [q] at c2
    cases c2
  | some o =>
    obtain ⟨oc, od, dt, osl⟩ := o
    rw [q] at c2 e
    cases dt with
    | func fd =>
      obtain ⟨n1, n2, n3, n4, n5, n6, n7, n8, n9, n10, n11, n12, n13, n14, n15⟩ := fd
      have e2 : (some (n1, n2, n3, n4, n5, n6, n7, n15) : FnV) = some (d.name, d.qual, d.params, .stmts d.body, d.scope, mainGlobals, [], builtinsNs) := e
      simp only [Option.some.injEq, Prod.mk.injEq] at e2
      obtain ⟨h1, h2, h3, h4, h5, h6, h7, h8⟩ := e2
      subst h1 h2 h3 h4 h5 h6 h7 h8
      obtain ⟨k1, k3⟩ := ba (show (PySem.W.codeIn K n13 d.qual && He.dflB K n8 []) = true from c2)
      exact ⟨⟨oc, od, n8, n9, n10, n11, n12, n13, n14, osl, rfl, q, k1, He.dflB_ok k3, .inl rfl⟩, kp⟩
    | _ => cases c2
abbrev AlF : Type := Bool × List FnV
def obsF (fn : List DF) (ex : PySem.W.Frag → Bool) (K : PySem.W.Frag) : AlF := ((fn.all fun d => d.ok K) && ex K, fn.map fun d => fnV K (d.at_.adr K))
def valF (fn : List DF) : AlF := (true, fn.map DF.val)
def SaysF (fn : List DF) (ex : PySem.W.Frag → Bool) (K : PySem.W.Frag) : Prop := obsF fn ex K = valF fn
def obsFG (n : Nat) (fn : List DF) (ex : PySem.W.Frag → Bool) (g : Addr → Option Obj) : AlF := obsF fn ex (He.frG g (He.asG g n))
def hookF (n : Nat) (fn : List DF) (ex : PySem.W.Frag → Bool) : PySem.W.Hook where
  α := AlF
  obs := fun s => obsFG n fn ex s.heap.get?
  val := fun _ => valF fn
  says := fun _ h => ∃ K : PySem.W.Frag, K.In h ∧ SaysF fn ex K
  of := fun _ _ e => ⟨_, He.frG_in, e⟩
  keeps := fun _ _ _ ⟨K, hK, c⟩ k => ⟨K, PySem.W.Frag.In.keeps hK k, c⟩
theorem obsFG_eq {n : Nat} {fn : List DF} {ex : PySem.W.Frag → Bool} {g : Addr → Option Obj} {s : Shared} (h : ∀ a, g a = s.heap.get? a) : obsFG n fn ex g = (hookF n fn ex).obs s := by
  have e : g = s.heap.get? := funext h
  rw [e] <;> rfl
section
variable {fn : List DF} {ex : PySem.W.Frag → Bool} {K : PySem.W.Frag} {h : Heap} {mg : Str → Option Value}
theorem SaysF.ex_ (c : SaysF fn ex K) : ex K = true := (ba (show ((fn.all fun d => d.ok K) && ex K) = true from congrArg (fun z : AlF => z.1) c)).2
theorem SaysF.def_ (c : SaysF fn ex K) (i : Nat) {d : DF} (h : fn[i]? = some d) : FunD K d.name d.qual d.params d.body d.scope [] [] (d.at_.adr K) (fdOf K (d.at_.adr K)) := by
  have c2 := (ba (show ((fn.all fun d => d.ok K) && ex K) = true from congrArg (fun z : AlF => z.1) c)).1
  have e : fn.map (fun d => fnV K (d.at_.adr K)) = fn.map DF.val := congrArg (fun z : AlF => z.2) c
  have e2 : (fn.map fun d => fnV K (d.at_.adr K))[i]? = (fn.map DF.val)[i]? := by rw [e]
  rw [List.getElem?_map, List.getElem?_map, h] at e2
  exact DF.funD (Option.some.inj e2) (List.all_eq_true.mp c2 d (List.mem_of_getElem? h))
/-! ### facts by Bools -/
def gloB (K : PySem.W.Frag) (x : Str) : Bool := He.eqO (PySem.W.nsIn K mainGlobals x) (some (some (.ref (ga K x))))
theorem gloB_ok (X : K.In h) (G : h.Ns mainGlobals mg) {x : Str} (c : gloB K x = true) : mg x = some (.ref (ga K x)) := PySem.W.mg_of X G (He.eqO_ok c)
def freeB (K : PySem.W.Frag) (x : Str) : Bool := He.eqO (PySem.W.nsIn K mainGlobals x) (some none)
theorem freeB_ok (X : K.In h) (G : h.Ns mainGlobals mg) {x : Str} (c : freeB K x = true) : mg x = none := PySem.W.mg_none_of X G (He.eqO_ok c)
/-- the module's own names, the free ones -/
def glosB (K : PySem.W.Frag) (l : List Str) : Bool := l.all fun x => gloB K x
def freesB (K : PySem.W.Frag) (l : List Str) : Bool := l.all fun x => freeB K x
theorem glosB_ok (X : K.In h) (G : h.Ns mainGlobals mg) {l : List Str} (c : glosB K l = true) (i : Nat) {x : Str} (e : l[i]? = some x) : mg x = some (.ref (ga K x)) := gloB_ok X G (List.all_eq_true.mp c x (List.mem_of_getElem? e))
theorem freesB_ok (X : K.In h) (G : h.Ns mainGlobals mg) {l : List Str} (c : freesB K l = true) (i : Nat) {x : Str} (e : l[i]? = some x) : mg x = none := freeB_ok X G (List.all_eq_true.mp c x (List.mem_of_getElem? e))
def clsB (K : PySem.W.Frag) (C : Addr) : Bool := PySem.W.plainGet K C Str.empty && (PySem.W.hasDictIn K C && (PySem.W.plainOver K C && He.eqO (PySem.W.findIn K (.ref C) "__setattr__") (some (some (.builtin "object.__setattr__")))))
theorem clsB_ok {C : Addr} (c : clsB K C = true) : Cls K C := by
  obtain ⟨c1, c⟩ := ba c
  obtain ⟨c2, c⟩ := ba c
  obtain ⟨c3, c4⟩ := ba c
  exact ⟨c1, c2, c3, He.eqO_ok c4⟩
def noatB (K : PySem.W.Frag) (C : Addr) (l : List Str) : Bool := l.all fun f => He.eqO (PySem.W.findIn K (.ref C) f) (some none)
theorem noatB_ok {C : Addr} {l : List Str} (c : noatB K C l = true) (i : Nat) {f : Str} (e : l[i]? = some f) : NoAttr K C f := He.eqO_ok (List.all_eq_true.mp c f (List.mem_of_getElem? e))
def methB (K : PySem.W.Frag) (C : Addr) (m : Str) : Bool := He.eqO (PySem.W.findIn K (.ref C) m) (some (some (.ref (ma K C m)))) && (PySem.W.isFn K (.ref (ma K C m)) && PySem.W.keepIn K (.ref (ma K C m)))
theorem methB_ok {C : Addr} {m : Str} (c : methB K C m = true) : Meth K C m (ma K C m) := by
  obtain ⟨c1, c⟩ := ba c
  obtain ⟨c2, c3⟩ := ba c
  exact ⟨He.eqO_ok c1, c2, c3⟩
def mkrB (K : PySem.W.Frag) (C : Addr) : Bool := PySem.W.makesIn K C && (He.eqO (PySem.W.findIn K (.ref C) "__init__") (some (some (.ref (ma K C "__init__")))) && (PySem.W.isFn K (.ref (ma K C "__init__")) && PySem.W.keepIn K (.ref C)))
theorem mkrB_ok {C : Addr} (c : mkrB K C = true) : Mk K C (ma K C "__init__") := by
  obtain ⟨c1, c⟩ := ba c
  obtain ⟨c2, c⟩ := ba c
  obtain ⟨c3, c4⟩ := ba c
  exact ⟨c1, He.eqO_ok c2, c3, c4⟩
def propB (K : PySem.W.Frag) (C : Addr) (f : Str) : Bool :=
  He.eqO (PySem.W.findIn K (.ref C) f) (some (some (.ref (ma K C f)))) && (He.eqO (PySem.W.specialIn K (.ref (ma K C f)) "__get__") (some (some (.builtin "property.__get__"))) && (decide (PySem.W.takesIn K (.ref (ma K C f)) = some true) &&
    (match PySem.W.recIn K (ma K C f) "property" with
      | some (.ref _ :: _) => true
      | _ => false)))
theorem propB_ok {C : Addr} {f : Str} (c : propB K C f = true) : PropOf K C f (ma K C f) (pg K C f) := by
  obtain ⟨c1, c⟩ := ba c
  obtain ⟨c2, c⟩ := ba c
  obtain ⟨c3, c4⟩ := ba c
  refine ⟨He.eqO_ok c1, He.eqO_ok c2, of_decide_eq_true c3, ?_⟩
  unfold pg
  split at c4
  · rename_i g r e
    exact ⟨r, by rw [e]⟩
  · cases c4
/-- no list stands written -/
def noLists (K : PySem.W.Frag) : Bool := K.all fun q => match q.2.cls with
  | .type c => !decide (c = "list")
  | _ => true
theorem noLists_ok (c : noLists K = true) {a : Addr} {o : Obj} (e : K.lookup a = some o) (hc : o.cls = .type "list") : False := by
  have mem : ∀ {l : List (Addr × Obj)}, l.lookup a = some o → ∃ q ∈ l, q.2 = o := fun {l} h => by
    induction l with
    | nil => cases h
    | cons p r ih =>
      obtain ⟨b, u⟩ := p
      have h2 : (match a == b with | true => some u | false => r.lookup a) = some o := h
      cases z : (a == b) with
      | true =>
        rw [z] at h2
        exact ⟨_, List.mem_cons_self, Option.some.inj h2⟩
      | false =>
        rw [z] at h2
        obtain ⟨q, m, e⟩ := ih h2
        exact ⟨q, List.mem_cons_of_mem _ m, e⟩
  obtain ⟨q, m, e⟩ := mem e
  have := List.all_eq_true.mp c q m
  rw [e, hc] at this
  simp at this
/-! ### own errors -/
def excB (K : PySem.W.Frag) (C : Addr) : Bool := match K.lookup C with
  | some ⟨.type "type", _, .cls cd, sl⟩ => (match cd.mro, sl.toList with
    | .ref C' :: bm, [_, _, _, _, some (.builtin n), _] => C' == C && n == "ValueError.__new__" && !cd.hasDel && cd.hasDict && PySem.HandSPX.refsVE bm
    | _, _ => false)
  | _ => false
theorem excB_ok {C : Addr} (q : excB K C = true) : ∃ nm q N bs bm sn sub ab col dd k0 k1 k2 k3 k5, K.lookup C = some (excClassObj nm q C N bs bm true sn sub ab col dd k0 k1 k2 k3 k5 "ValueError.__new__") ∧ PySem.HandSPX.refsVE bm = true := by
  unfold excB at q
  split at q
  · rename_i dd cd sl ho
    split at q
    · rename_i C' bm k0 k1 k2 k3 n k5 hm hs
      simp only [Bool.and_eq_true, beq_iff_eq, Bool.not_eq_true'] at q
      obtain ⟨⟨⟨⟨rfl, rfl⟩, hdel⟩, hdd⟩, ht⟩ := q
      obtain ⟨nm, bs, mro, ns, qn, hd, sn, sub, ab, col, del⟩ := cd
      dsimp only at hm hdel hdd
      subst hm hdel hdd
      have hsl : sl = #[k0, k1, k2, k3, some (.builtin "ValueError.__new__"), k5] := by
        obtain ⟨l⟩ := sl
        simp only at hs
        rw [hs]
      subst hsl
      exact ⟨nm, qn, ns, bs, bm, sn, sub, ab, col, dd, k0, k1, k2, k3, k5, ho, ht⟩
    · cases q
  · cases q
def lowB (K : PySem.W.Frag) (b x : Str) : Bool := gloB K x && (excB K (ga K x) && (He.eqO (PySem.W.findIn K (.ref (ga K x)) "__setattr__") (some (some (.builtin "object.__setattr__"))) && (He.eqO (PySem.W.findIn K (.ref (ga K x)) "__getattribute__") (some (some (.builtin "BaseException.__getattribute__"))) &&
  (He.eqO (PySem.W.findIn K (.ref (ga K x)) "__getattr__") (some none) && (He.eqO (PySem.W.findIn K (.ref (ga K x)) "value") (some none) && (He.eqO (PySem.W.findIn K (.ref (ga K x)) "__init__") (some (some (.ref (ma K (ga K b) "__init__")))) &&
  (decide (PySem.W.typeIn K (.ref (ma K (ga K b) "__init__")) = some (.type "function")) && (PySem.W.keepIn K (.ref (ga K x)) && (decide (PySem.W.subIn K (.ref (ga K x)) (.type "BaseException") = some true) && (decide (PySem.W.typeIn K (.ref (ga K x)) = some (.type "type")) &&
  (PySem.W.hasDictIn K (ga K x) && decide (PySem.W.exmOne K (.ref (ga K x)) (.ref (ga K x)) = some true))))))))))))
/-- b's own __init__ -/
theorem lowB_ok (X : K.In h) (G : h.Ns mainGlobals mg) {b x : Str} {p1 p2 q1 q2 q3 q4 : Pos} {fd : FuncData} (F : FunD K "__init__" "WorthError.__init__" (PySem.LowX.iA p1 p2) (PySem.LowX.iB q1 q2 q3 q4) PySem.LowX.iS [] [] (ma K (ga K b) "__init__") fd) (c : lowB K b x = true) :
    PySem.LowX.LowTxt x K mg (ga K x) (ma K (ga K b) "__init__") := by
  obtain ⟨c1, c⟩ := ba c
  obtain ⟨c2, c⟩ := ba c
  obtain ⟨c3, c⟩ := ba c
  obtain ⟨c4, c⟩ := ba c
  obtain ⟨c5, c⟩ := ba c
  obtain ⟨c6, c⟩ := ba c
  obtain ⟨c7, c⟩ := ba c
  obtain ⟨c8, c⟩ := ba c
  obtain ⟨c9, c⟩ := ba c
  obtain ⟨c10, c⟩ := ba c
  obtain ⟨c11, c⟩ := ba c
  obtain ⟨c12, c13⟩ := ba c
  obtain ⟨oc, od, dV, kV, doc, pm, an, cdv, ct, osl, rfl, lk, hcd, hD, hK⟩ := F.ex
  rcases hD with ⟨_, rfl⟩ | ⟨e, _⟩
  · exact ⟨gloB_ok X G c1, excB_ok c2, He.eqO_ok c3, He.eqO_ok c4, He.eqO_ok c5, He.eqO_ok c6, He.eqO_ok c7, of_decide_eq_true c8, c9, of_decide_eq_true c10, of_decide_eq_true c11, c12, of_decide_eq_true c13, ⟨oc, od, kV, doc, pm, an, cdv, ct, osl, _, _, _, _, _, _, lk, hcd⟩⟩
  · exact absurd rfl e
end
/-! ### the law -/
/-- a law whose promise is asked where the script stands -/
theorem walkF {l : PySem.W.OpenLaw} {n k : Nat} {q : Program} {loose : List Str} {XP : (Str → Option Value) → Heap → Prop} {YP : World → Heap → Prop} {d : DefRec} {x : Str}
    (hn : l.most = some n) (hn2 : n ≤ sizeLine) (hdf : d.params.defaults = []) (hr : Room k callerA)
    (F : ∀ (w : World) (mg : Str → Option Value) (fa : Addr) (h : Heap), YP w h → h.Ns mainGlobals mg → mg d.name = some (.ref fa) →
      ∃ (K : PySem.W.Frag) (fd : FuncData) (sp : Sp), K.In h ∧ noLists K = true ∧ (∀ (s : Shared) (u : Value), BindsTo s fd ⟨[u], []⟩ [(x, u)]) ∧
        (∀ (H : Hp) (a : Addr) (ns : List Int) (o : Obj), ns.length ≤ n → (∀ i ∈ ns, Builtin.Int.intBits i ≤ 1048576) → H a = some (.frz o (.lst (ns.map V.int))) → sp [.ref a] H (fun v _ => v = .bl true) fun _ _ _ => False) ∧
        ∀ base : Heap, K.In base → base.Ns mainGlobals mg → FnG l.prog w K mg base k fa fd [x] sp) :
    PySem.W.WalkO q loose XP YP l.row.toRowW d [] (fun f vs => PySem.call f vs) := by
  refine Att.attach_callB hn hdf fun w s₀ s₁ mg mb fa o pm cd doc a vs ns G Y ho hd hcd hmg hobj hints hlen hbits hg => ?_
  obtain ⟨K, fd, sp, KX, hnl, hb, hsp, hF⟩ := F w mg fa _ Y G.T.g hmg
  refine law_callG KX G.T.g G.T.b G.T.builtins G.T.nolimit hg hobj hints (Nat.le_trans hlen hn2) hr hF hb (fun H hO hS => ?_) fun H e s' h => ?_
  · rcases hS with hS | hS
    · rcases hS with z | ⟨o, z⟩
      · rcases hO a with e | ⟨ob, xs, e⟩
        · rw [e] at z; cases z
        · rw [e] at z; cases z
      · exact hsp H a ns o hlen hbits z
    · obtain ⟨o, its, m, e, hc, _⟩ := hS
      exact (noLists_ok hnl e hc).elim
  · obtain ⟨_, _, _, _, _, _, _, _, _, _, _, _, z⟩ := h
    exact z
/-- the law's def, at the script -/
theorem law_spD {W : Wd} {g : List M → CK → CX → Prop} {H : Hp} {a : Addr} {ns : List Int} {o : Obj} (h : H a = some (.frz o (.lst (ns.map V.int)))) (p : g [.scr ns] (fun sv _ => sv = .v (.dat (.bool true))) fun _ _ _ => False) :
    spD W g [.ref a] H (fun v _ => v = .bl true) fun _ _ _ => False := by
  refine ⟨fun b => b = a, [.scr ns], [[]], _, _, fun b e => ?_, .cons (.scr rfl h) .nil, by simp, by simp, p, fun sv outs e F' H' fos v fp _ _ rc => ?_, fun c m outs e => e.elim⟩
  · subst e
    rw [h]; simp
  · subst e
    cases rc with
    | dat r => cases r; rfl
end QL
end
section
set_option linter.all false
set_option maxRecDepth 100000
set_option maxHeartbeats 2000000
/-! SG2: helpers for printed proofs. -/
namespace QL
open PySem PySem.Spec PyProof.Rows L2
open He (ga ma ba)

mutual
def tgL : Tg → List Nat
  | .n j => [j]
  | .t l => tgsL l
def tgsL : List Tg → List Nat
  | [] => []
  | t :: r => tgL t ++ tgsL r
end
mutual
theorem tgL_mem {i : Nat} : ∀ {t : Tg}, tgHas i t = true → i ∈ tgL t
  | .n j, h => by
    have e : j = i := Nat.eq_of_beq_eq_true (by unfold tgHas at h; exact h)
    unfold tgL
    simp [e]
  | .t l, h => by
    unfold tgHas at h
    unfold tgL
    exact tgsL_mem h
theorem tgsL_mem {i : Nat} : ∀ {l : List Tg}, tgsHas i l = true → i ∈ tgsL l
  | [], h => by
    unfold tgsHas at h
    cases h
  | t :: r, h => by
    unfold tgsHas at h
    unfold tgsL
    rw [Bool.or_eq_true] at h
    rcases h with h | h
    · exact List.mem_append_left _ (tgL_mem h)
    · exact List.mem_append_right _ (tgsL_mem h)
end
theorem tgFx {t : Tg} {fx : Nat → Bool} (h : (tgL t).all (fun i => !fx i) = true) : ∀ i, tgHas i t = true → fx i = false := fun i q => by
  have := List.all_eq_true.mp h i (tgL_mem q)
  simpa using this
theorem tgOwn {t : Tg} {own : List Nat} (h : (tgL t).all (fun i => own.contains i) = true) : ∀ i, tgHas i t = true → i ∈ own := fun i q => by
  have := List.all_eq_true.mp h i (tgL_mem q)
  simpa using this
theorem fxHi {np ns m : Nat} {reb : List Nat} (h : m = ns) : ∀ j, m ≤ j → fxOf np reb ns j = true := fun j hj => by
  subst h
  unfold fxOf
  rw [Nat.ble_eq_true_of_le hj]
  rfl
/-! ### what the top leaves -/
structure Top (fn : List DF) (exs : PySem.W.Frag → List Bool) (K : PySem.W.Frag) (mg : Str → Option Value) : Prop where
  ex : ∃ h : Heap, K.In h ∧ h.Ns mainGlobals mg ∧ SaysF fn (fun K => (exs K).all id) K
section
variable {fn : List DF} {exs : PySem.W.Frag → List Bool} {P : Program} {w : World} {K : PySem.W.Frag} {base : Heap} {mg : Str → Option Value}
theorem Top.def_ (T : Top fn exs K mg) (i : Nat) {d : DF} (h : fn[i]? = some d) : FunD K d.name d.qual d.params d.body d.scope [] [] (d.at_.adr K) (fdOf K (d.at_.adr K)) := by
  obtain ⟨_, _, _, s⟩ := T.ex
  exact s.def_ i h
theorem Top.say (T : Top fn exs K mg) (i : Nat) {b : Bool} (h : (exs K)[i]? = some b) : b = true := by
  obtain ⟨_, _, _, s⟩ := T.ex
  have := List.all_eq_true.mp s.ex_ b (List.mem_of_getElem? h)
  exact this
theorem Top.glo (T : Top fn exs K mg) (i : Nat) {l : List Str} (h : (exs K)[i]? = some (glosB K l)) (j : Nat) {x : Str} (e : l[j]? = some x) : mg x = some (.ref (ga K x)) := by
  have b := T.say i h
  obtain ⟨_, X, G, _⟩ := T.ex
  exact glosB_ok X G b j e
theorem Top.free (T : Top fn exs K mg) (i : Nat) {l : List Str} (h : (exs K)[i]? = some (freesB K l)) (j : Nat) {x : Str} (e : l[j]? = some x) : mg x = none := by
  have b := T.say i h
  obtain ⟨_, X, G, _⟩ := T.ex
  exact freesB_ok X G b j e
theorem Top.low (T : Top fn exs K mg) (i : Nat) {b x : Str} (h : (exs K)[i]? = some (lowB K b x)) {p1 p2 q1 q2 q3 q4 : Pos} {fd : FuncData} (F : FunD K "__init__" "WorthError.__init__" (PySem.LowX.iA p1 p2) (PySem.LowX.iB q1 q2 q3 q4) PySem.LowX.iS [] [] (ma K (ga K b) "__init__") fd) :
    PySem.LowX.LowTxt x K mg (ga K x) (ma K (ga K b) "__init__") := by
  have c := T.say i h
  obtain ⟨_, X, G, _⟩ := T.ex
  exact lowB_ok X G F c
/-- a text, a tuple of the top -/
def strB (K : PySem.W.Frag) (x z : Str) : Bool := match PySem.W.nsIn K mainGlobals x with
  | some (some (.str y _)) => decide (y = z)
  | _ => false
theorem Top.str (T : Top fn exs K mg) (i : Nat) {x z : Str} (h : (exs K)[i]? = some (strB K x z)) : ∃ u, mg x = some u ∧ RelV (.str z) u := by
  have c := T.say i h
  obtain ⟨_, X, G, _⟩ := T.ex
  obtain ⟨t, e⟩ := He.str_ok (x := x) (z := z) X G c
  exact ⟨_, e, t, rfl⟩
def tupTB (K : PySem.W.Frag) (x : Str) (zs : List Str) : Bool := gloB K x && (match K.lookup (ga K x) with
  | some ⟨.type c, _, .seq its _, _⟩ => decide (c = "tuple") && (decide (its.size ≤ sizeLine) && He.relAll (zs.map V.str) its.toList)
  | _ => false)
theorem Top.tupT (T : Top fn exs K mg) (i : Nat) {x : Str} {zs : List Str} (h : (exs K)[i]? = some (tupTB K x zs)) (hz : ∀ z ∈ zs, PyData.strOk z = true ∧ z.length ≤ sizeLine) (hl : zs.length ≤ sizeLine) :
    (∀ F H, RD K F H (.tuple (zs.map .str)) (.ref (ga K x))) ∧ mg x = some (.ref (ga K x)) := by
  have c := T.say i h
  obtain ⟨_, X, G, _⟩ := T.ex
  obtain ⟨c1, c2⟩ := ba c
  refine ⟨fun F H => ?_, gloB_ok X G c1⟩
  have rs : ∀ {zs : List Str}, (∀ z ∈ zs, PyData.strOk z = true ∧ z.length ≤ sizeLine) → RDs K F H (zs.map .str) (zs.map V.str) := fun {zs} hz => by
    induction zs with
    | nil => exact .nil
    | cons z r ih => exact .cons (.str (hz z List.mem_cons_self).1 (hz z List.mem_cons_self).2) (ih fun y hy => hz y (List.mem_cons_of_mem _ hy))
  cases q : K.lookup (ga K x) with
  | none =>
    rw [q] at c2
    cases c2
  | some o =>
    obtain ⟨oc, od, dt, osl⟩ := o
    rw [q] at c2
    cases oc with
    | type c =>
      cases dt with
      | seq its n =>
        obtain ⟨h1, h2⟩ := ba (show (decide (c = "tuple") && (decide (its.size ≤ sizeLine) && He.relAll (zs.map V.str) its.toList)) = true from c2)
        obtain ⟨h3, h4⟩ := ba h2
        exact .tuple (.inr ⟨_, its, n, q, congrArg Value.type (of_decide_eq_true h1), rfl, of_decide_eq_true h3, He.relAll_ok h4⟩) (by rw [List.length_map]; exact hl) (rs hz)
      | _ => cases c2
    | _ => cases dt <;> cases c2
end
section
variable {P : Program} {w : World} {K : PySem.W.Frag} {mg : Str → Option Value} {base : Heap} {k : Nat} {f : Addr} {name qual : Str} {params : Arguments} {body : List Stmt} {scope : Scope} {N ps : List Str} {W : Wd} {Pg : Prg} {n i : Nat} {fn : Fn}
theorem def_ok (F : FunD K name qual params body scope [] [] f (fdOf K f)) (hf : Pg.fn i = some fn) (sc : FnScope N ps scope) (hps : ps.length = fn.np) (hN : N.length = fn.ns) (hp : fn.np ≤ fn.ns) (hK : K = W.K)
    (main : ∀ (cdv : Value) (A : Around) (out : List PySem.Env) (s : Shared) (H : Hp) (E : XK), XC W (fun cls d _ H => E cls d H) (cxOf (L2.CX P w) P w K mg base N qual scope f cdv A out s H E) k →
      PSs (cxOf (L2.CX P w) P w K mg base N qual scope f cdv A out s H E) body (tSs (gam Pg n) fn.dp W [] (fun cls d _ H => E cls d H) (fxOf fn.np fn.reb fn.ns) fn.body)) :
    FnG P w K mg base (k + 1) f (fdOf K f) ps (spD W (callW Pg (n + 1) i)) := by
  obtain ⟨oc, od, dV, kV, doc, pm, an, cdv, ct, osl, e, lk, hcd, _⟩ := F.ex
  rw [e] at lk ⊢
  exact fn_def hf lk hcd sc hps hN hp hK fun A out s H E => main cdv A out s H E
end
theorem fn_none {P : Program} {w : World} {K : PySem.W.Frag} {mg : Str → Option Value} {base : Heap} {k : Nat} {f : Addr} {fd : FuncData} {ps : List Str} {W : Wd} {Pg : Prg} {n i : Nat} (h : Pg.fn i = none) : FnG P w K mg base k f fd ps (spD W (callW Pg (n + 1) i)) := by
  have no : ∀ ms K X, ¬ callW Pg (n + 1) i ms K X := fun ms K X z => by
    unfold callW at z
    rw [h] at z
    exact z
  exact ⟨fun _ _ _ _ ⟨_, _, _, _, _, _, _, _, _, g, _⟩ => (no _ _ _ g).elim, fun _ _ _ _ _ _ _ _ _ _ _ _ _ _ ⟨_, _, _, _, _, _, _, _, _, g, _⟩ => (no _ _ _ g).elim⟩
section
variable {Γ : Ctx} {dp : Bool} {W : Wd} {En : List (Addr × Nat × Addr)} {Wx : WX} {X : Cx} {p : Pos} {x : Str}
theorem q_glS {z : Str} (h : ∃ u, X.mg x = some u ∧ RelV (.str z) u) (ok : PyData.strOk z = true := by decide +kernel) (ln : z.length ≤ sizeLine := by decide +kernel) (hg : Gl X x := by rfl) (hdb : (x == ("__debug__" : Str)) = false := by decide) : PE X (.Name x p) (tE Γ dp W En Wx (.c (.str z))) := by
  obtain ⟨u, e, r⟩ := h
  exact q_gl (fun _ _ => .str ok ln) e r hg hdb
theorem q_glT {zs : List Str} {a : Addr} (hK : X.K = W.K) (h : (∀ F H, RD X.K F H (.tuple (zs.map .str)) (.ref a)) ∧ X.mg x = some (.ref a)) (hg : Gl X x := by rfl) (hdb : (x == ("__debug__" : Str)) = false := by decide) : PE X (.Name x p) (tE Γ dp W En Wx (.c (.tuple (zs.map .str)))) := by
  rw [hK] at h
  exact q_gl h.1 h.2 (show RelV (.ref a) (.ref a) from rfl) hg hdb
end
/-! ### fields' names -/
def fldOf (T : List (Nat × Str)) (i : Nat) : Str := match T.lookup i with
  | some s => s
  | none => ⟨Array.replicate (i + 100) 120⟩
theorem look_in {T : List (Nat × Str)} {i : Nat} {s : Str} (h : T.lookup i = some s) : (i, s) ∈ T := by
  induction T with
  | nil => cases h
  | cons p r ih =>
    obtain ⟨b, u⟩ := p
    have h2 : (match i == b with | true => some u | false => r.lookup i) = some s := h
    cases z : (i == b) with
    | true =>
      rw [z] at h2
      have e : i = b := by simpa using z
      have e2 : u = s := Option.some.inj h2
      rw [e, e2]
      exact List.mem_cons_self
    | false =>
      rw [z] at h2
      exact List.mem_cons_of_mem _ (ih h2)
theorem fldOf_inj {T : List (Nat × Str)} (h1 : (T.all fun p => Nat.blt p.2.cps.size 100) = true) (h2 : (T.all fun p => T.all fun q => !(decide (p.2 = q.2)) || Nat.beq p.1 q.1) = true) (i j : Nat) (h : fldOf T i = fldOf T j) : i = j := by
  unfold fldOf at h
  have sh : ∀ {k : Nat} {s : Str}, T.lookup k = some s → s.cps.size < 100 := fun {k s} e => Nat.le_of_ble_eq_true (List.all_eq_true.mp h1 _ (look_in e))
  cases ei : T.lookup i with
  | some s =>
    rw [ei] at h
    cases ej : T.lookup j with
    | some t =>
      rw [ej] at h
      have h : s = t := h
      have := List.all_eq_true.mp (List.all_eq_true.mp h2 _ (look_in ei)) _ (look_in ej)
      rw [h] at this
      simp at this
      exact this
    | none =>
      rw [ej] at h
      have h : s = ⟨Array.replicate (j + 100) 120⟩ := h
      have := sh ei
      rw [h] at this
      simp at this
      omega
  | none =>
    rw [ei] at h
    cases ej : T.lookup j with
    | some t =>
      rw [ej] at h
      have h : ⟨Array.replicate (i + 100) 120⟩ = t := h
      have := sh ej
      rw [← h] at this
      simp at this
      omega
    | none =>
      rw [ej] at h
      have h : (⟨Array.replicate (i + 100) 120⟩ : Str) = ⟨Array.replicate (j + 100) 120⟩ := h
      have := congrArg (fun s : Str => s.cps.size) h
      simp at this
      exact this
theorem fldOf_ne {T : List (Nat × Str)} {nm : Str} (h1 : (T.all fun p => !decide (p.2 = nm)) = true) (h2 : nm.cps.size < 100) (j : Nat) : fldOf T j ≠ nm := fun h => by
  unfold fldOf at h
  cases ej : T.lookup j with
  | some t =>
    rw [ej] at h
    have h : t = nm := h
    have := List.all_eq_true.mp h1 _ (look_in ej)
    simp [h] at this
  | none =>
    rw [ej] at h
    have h : ⟨Array.replicate (j + 100) 120⟩ = nm := h
    rw [← h] at h2
    simp at h2
    omega
end QL
end
section
set_option linter.all false
set_option maxRecDepth 100000
set_option maxHeartbeats 4000000
namespace QL
namespace K02
open PySem PySem.Spec PyProof.Rows L2
open He (ga ma ba)

abbrev prog : Program := PySem.Challenge.pw_keptworths_k02_tables_told
def top (i : Nat) : Stmt := prog.main.body.getD i (.Pass ⟨0, 0, 0, 0⟩)
def cbody (s : Stmt) : List Stmt := match s with
  | .ClassDef _ _ _ b _ _ _ _ _ _ _ => b
  | _ => []
def mth (i j : Nat) : Stmt := (cbody (top i)).getD j (.Pass ⟨0, 0, 0, 0⟩)
abbrev dd (a : At) (n q : Str) (s : Stmt) : DF := ⟨a, n, q, defArgs s, defBody s, defScope s⟩
def fn : List DF := [dd (.m "WorthError" "__init__") "__init__" "WorthError.__init__" (mth 1 0),
  dd (.g "is_name") "is_name" "is_name" (top 10),
  dd (.g "check_names") "check_names" "check_names" (top 11),
  dd (.g "check_sources") "check_sources" "check_sources" (top 12),
  dd (.g "check_edition") "check_edition" "check_edition" (top 13),
  dd (.m "Table" "__init__") "__init__" "Table.__init__" (mth 14 0),
  dd (.p "Table" "plain") "plain" "Table.plain" (mth 14 1),
  dd (.p "Table" "editions") "editions" "Table.editions" (mth 14 2),
  dd (.p "Table" "columns") "columns" "Table.columns" (mth 14 3),
  dd (.m "Table" "__getitem__") "__getitem__" "Table.__getitem__" (mth 14 4),
  dd (.m "Table" "__len__") "__len__" "Table.__len__" (mth 14 6),
  dd (.m "Table" "deeds") "deeds" "Table.deeds" (mth 14 8),
  dd (.g "_law_source") "_law_source" "_law_source" (top 16),
  dd (.g "_law_draw") "_law_draw" "_law_draw" (top 17),
  dd (.g "_law_some_titles") "_law_some_titles" "_law_some_titles" (top 18),
  dd (.g "_law_any_plan") "_law_any_plan" "_law_any_plan" (top 19),
  dd (.g "_law_copied") "_law_copied" "_law_copied" (top 20),
  dd (.g "_law_table_of") "_law_table_of" "_law_table_of" (top 21),
  dd (.g "_law_every_deed") "_law_every_deed" "_law_every_deed" (top 22),
  dd (.g "_law_asked") "_law_asked" "_law_asked" (top 23),
  dd (.g "_law_items_spoilt") "_law_items_spoilt" "_law_items_spoilt" (top 24),
  dd (.g "_law_refused") "_law_refused" "_law_refused" (top 25),
  dd (.g "_law_table_right") "_law_table_right" "_law_table_right" (top 26),
  dd (.g "law") "law" "law" (top 27)]
/-- is_name -/
def ir_is_name : Fn := { np := 1, ns := 2, reb := [], dp := false, body :=
 (.cons (.ret (.and (.chain .le .le (.c (.int 1)) (.prim .len (.cons false (.x 0) .nil)) (.c (.int 8))) (.prim .all (.cons false (.comp [1] (.n 1) (.e (.x 0)) .none (.cmp .isin (.x 1) (.c (.str (Str.ofString "abcdefghijklmnopqrstuvwxyz"))))) .nil))))
 .nil) }
/-- check_names -/
def ir_check_names : Fn := { np := 1, ns := 3, reb := [], dp := false, body :=
 (.cons (.for (.t [(.n 1), (.n 2)]) (.enum (.x 0))
 (.cons (.ifs (.nt (.call 28 (.cons false (.x 2) .nil) []))
 (.cons (.raise 101 (.x 2))
 .nil)
 .nil)
 (.cons (.ifs (.cmp .isin (.x 2) (.sl (.x 0) .none (.some (.x 1))))
 (.cons (.raise 102 (.x 2))
 .nil)
 .nil)
 .nil)))
 .nil) }
/-- check_sources -/
def ir_check_sources : Fn := { np := 2, ns := 4, reb := [], dp := false, body :=
 (.cons (.for (.t [(.n 2), (.n 3)]) (.enum (.x 0))
 (.cons (.ifs (.cmp .notin (.x 3) (.x 1))
 (.cons (.raise 103 (.x 3))
 .nil)
 .nil)
 (.cons (.ifs (.cmp .isin (.x 3) (.sl (.x 0) .none (.some (.x 2))))
 (.cons (.raise 102 (.x 3))
 .nil)
 .nil)
 .nil)))
 .nil) }
/-- check_edition -/
def ir_check_edition : Fn := { np := 2, ns := 7, reb := [], dp := false, body :=
 (.cons (.asg (.n 2) (.prim .lst (.cons false (.x 0) .nil)))
 (.cons (.for (.t [(.n 3), (.n 4), (.n 5), (.n 6)]) (.e (.x 1))
 (.cons (.ifs (.nt (.call 28 (.cons false (.x 3) .nil) []))
 (.cons (.raise 101 (.x 3))
 .nil)
 .nil)
 (.cons (.ifs (.nt (.call 28 (.cons false (.x 4) .nil) []))
 (.cons (.raise 101 (.x 4))
 .nil)
 .nil)
 (.cons (.ifs (.cmp .isin (.x 3) (.x 2))
 (.cons (.raise 102 (.x 3))
 .nil)
 .nil)
 (.cons (.ex (.call 30 (.cons false (.x 5) (.cons false (.x 2) .nil)) []))
 (.cons (.ifs (.cmp .notin (.x 6) (.c (.tuple [(.str (Str.ofString "read")), (.str (Str.ofString "follows")), (.str (Str.ofString "stays"))])))
 (.cons (.raise 106 (.x 6))
 .nil)
 .nil)
 (.cons (.ex (.bm (.x 2) .append (.cons false (.x 3) .nil)))
 .nil)))))))
 .nil)) }
/-- Table.__init__ -/
def ir_Table___init__ : Fn := { np := 3, ns := 11, reb := [], dp := false, body :=
 (.cons (.ex (.call 29 (.cons false (.x 1) .nil) []))
 (.cons (.ifs (.nt (.x 2))
 (.cons (.raise 104 (.c (.int 0)))
 .nil)
 .nil)
 (.cons (.asg (.n 3) (.lst .nil))
 (.cons (.for (.t [(.n 4), (.n 5)]) (.enum (.x 2))
 (.cons (.ex (.call 31 (.cons false (.x 1) (.cons false (.x 5) .nil)) []))
 (.cons (.ex (.bm (.x 3) .append (.cons false (.prim .tup (.cons false (.comp [7, 8, 9, 10] (.t [(.n 7), (.n 8), (.n 9), (.n 10)]) (.e (.x 5)) .none (.tup (.cons false (.x 7) (.cons false (.x 8) (.cons false (.prim .tup (.cons false (.x 9) .nil)) (.cons false (.x 10) .nil)))))) .nil)) .nil)))
 (.cons (.ifs (.cmp .ne (.comp [6] (.n 6) (.e (.ix (.x 3) (.x 4))) .none (.ix (.x 6) (.c (.int 0)))) (.comp [6] (.n 6) (.e (.ix (.x 3) (.c (.int 0)))) .none (.ix (.x 6) (.c (.int 0)))))
 (.cons (.raise 104 (.x 4))
 .nil)
 .nil)
 .nil))))
 (.cons (.setFld (.x 0) 209 (.prim .tup (.cons false (.x 1) .nil)))
 (.cons (.setFld (.x 0) 207 (.prim .tup (.cons false (.x 3) .nil)))
 .nil)))))) }
/-- Table.plain -/
def ir_Table_plain : Fn := { np := 1, ns := 1, reb := [], dp := false, body :=
 (.cons (.ret (.prim .lst (.cons false (.fld (.x 0) 209) .nil)))
 .nil) }
/-- Table.editions -/
def ir_Table_editions : Fn := { np := 1, ns := 7, reb := [], dp := true, body :=
 (.cons (.asg (.n 1) (.lst .nil))
 (.cons (.for (.n 2) (.e (.fld (.x 0) 207))
 (.cons (.ex (.bm (.x 1) .append (.cons false (.comp [3, 4, 5, 6] (.t [(.n 3), (.n 4), (.n 5), (.n 6)]) (.e (.x 2)) .none (.tup (.cons false (.x 3) (.cons false (.x 4) (.cons false (.prim .lst (.cons false (.x 5) .nil)) (.cons false (.x 6) .nil)))))) .nil)))
 .nil))
 (.cons (.ret (.x 1))
 .nil))) }
/-- Table.columns -/
def ir_Table_columns : Fn := { np := 1, ns := 2, reb := [], dp := false, body :=
 (.cons (.ret (.comp [1] (.n 1) (.e (.ix (.fld (.x 0) 207) (.c (.int 0)))) .none (.ix (.x 1) (.c (.int 0)))))
 .nil) }
/-- Table.__getitem__ -/
def ir_Table___getitem__ : Fn := { np := 2, ns := 8, reb := [], dp := true, body :=
 (.cons (.asg (.n 2) (.lst .nil))
 (.cons (.for (.n 3) (.e (.fld (.x 0) 207))
 (.cons (.for (.t [(.n 4), (.n 5), (.n 6), (.n 7)]) (.e (.x 3))
 (.cons (.ifs (.cmp .eq (.x 4) (.x 1))
 (.cons (.ex (.bm (.x 2) .append (.cons false (.tup (.cons false (.x 5) (.cons false (.prim .lst (.cons false (.x 6) .nil)) (.cons false (.x 7) .nil)))) .nil)))
 .nil)
 .nil)
 .nil))
 .nil))
 (.cons (.ifs (.cmp .eq (.x 2) (.lst .nil))
 (.cons (.raise 103 (.x 1))
 .nil)
 .nil)
 (.cons (.ret (.x 2))
 .nil)))) }
/-- Table.__len__ -/
def ir_Table___len__ : Fn := { np := 1, ns := 1, reb := [], dp := false, body :=
 (.cons (.ret (.prim .len (.cons false (.fld (.x 0) 207) .nil)))
 .nil) }
/-- Table.deeds -/
def ir_Table_deeds : Fn := { np := 1, ns := 4, reb := [], dp := false, body :=
 (.cons (.asg (.n 1) (.lst (.cons false (.tup (.cons false (.c (.str (Str.ofString "put"))) .nil)) .nil)))
 (.cons (.ex (.bm (.x 1) .extend (.cons false (.comp [2] (.n 2) (.e (.fld (.x 0) 209)) .none (.tup (.cons false (.c (.str (Str.ofString "set"))) (.cons false (.x 2) .nil)))) .nil)))
 (.cons (.ex (.bm (.x 1) .extend (.cons false (.comp [3] (.n 3) (.e (.ix (.fld (.x 0) 207) (.c (.int 0)))) .none (.tup (.cons false (.c (.str (Str.ofString "rewrite"))) (.cons false (.ix (.x 3) (.c (.int 0))) .nil)))) .nil)))
 (.cons (.ex (.bm (.x 1) .append (.cons false (.tup (.cons false (.c (.str (Str.ofString "edition"))) .nil)) .nil)))
 (.cons (.ret (.x 1))
 .nil))))) }
/-- _law_source -/
def ir__law_source : Fn := { np := 2, ns := 3, reb := [], dp := false, body :=
 (.cons (.asg (.n 2) (.ife (.cmp .lt (.x 1) (.prim .len (.cons false (.x 0) .nil))) (.ix (.x 0) (.x 1)) (.c (.int 0))))
 (.cons (.ret (.lst (.cons false (.prim .max2 (.cons false (.c (.int 0)) (.cons false (.bin .sub (.prim .abs (.cons false (.x 2) .nil)) (.bin .pow (.c (.int 10)) (.c (.int 18)))) .nil))) (.cons false (.bin .mod (.prim .int (.cons false (.bin .add (.bin .add (.bin .mul (.x 2) (.c (.int 60013))) (.bin .mul (.x 1) (.c (.int 15485863)))) (.c (.int 32452843))) .nil)) (.bin .add (.bin .pow (.c (.int 10)) (.c (.int 24))) (.c (.int 7)))) (.cons false (.c (.int 0)) .nil)))))
 .nil)) }
/-- _law_draw -/
def ir__law_draw : Fn := { np := 2, ns := 4, reb := [], dp := false, body :=
 (.cons (.ifs (.cmp .gt (.ix (.x 0) (.c (.int 0))) (.c (.int 1)))
 (.cons (.asg (.n 2) (.bin .mod (.prim .int (.cons false (.ix (.x 0) (.c (.int 0))) .nil)) (.x 1)))
 (.cons (.setIx (.x 0) (.c (.int 0)) (.bin .fdiv (.ix (.x 0) (.c (.int 0))) (.x 1)))
 (.cons (.ret (.x 2))
 .nil)))
 .nil)
 (.cons (.setIx (.x 0) (.c (.int 2)) (.bin .add (.ix (.x 0) (.c (.int 2))) (.c (.int 1))))
 (.cons (.asg (.n 3) (.bin .mod (.bin .pow (.prim .int (.cons false (.bin .add (.ix (.x 0) (.c (.int 1))) (.bin .mul (.c (.int 179424673)) (.ix (.x 0) (.c (.int 2))))) .nil)) (.c (.int 3))) (.bin .add (.bin .pow (.c (.int 10)) (.c (.int 26))) (.c (.int 67)))))
 (.cons (.asg (.n 3) (.bin .mod (.bin .pow (.prim .int (.cons false (.bin .add (.x 3) (.bin .mul (.c (.int 86028121)) (.ix (.x 0) (.c (.int 2))))) .nil)) (.c (.int 2))) (.bin .add (.bin .pow (.c (.int 10)) (.c (.int 25))) (.c (.int 13)))))
 (.cons (.ret (.bin .mod (.prim .int (.cons false (.bin .fdiv (.x 3) (.c (.int 4096))) .nil)) (.x 1)))
 .nil))))) }
/-- _law_some_titles -/
def ir__law_some_titles : Fn := { np := 2, ns := 16, reb := [], dp := true, body :=
 (.cons (.asg (.t [(.n 2), (.n 3), (.n 4)]) (.tup (.cons false (.c (.str (Str.ofString "abcdefghijklmnopqrstuvwxyz"))) (.cons false (.call 42 (.cons false (.x 0) (.cons false (.c (.int 4)) .nil)) []) (.cons false (.lst .nil) .nil)))))
 (.cons (.asg (.n 5) (.lst (.cons false (.c (.str (Str.ofString "plain"))) (.cons false (.c (.str (Str.ofString "put"))) (.cons false (.c (.str (Str.ofString "set"))) (.cons false (.c (.str (Str.ofString "rewrite"))) (.cons false (.c (.str (Str.ofString "edition"))) (.cons false (.c (.str (Str.ofString "read"))) (.cons false (.c (.str (Str.ofString "follows"))) (.cons false (.c (.str (Str.ofString "stays"))) (.cons false (.c (.str (Str.ofString "a"))) (.cons false (.c (.str (Str.ofString "b"))) (.cons false (.c (.str (Str.ofString "told"))) (.cons false (.c (.str (Str.ofString "now"))) (.cons false (.c (.str (Str.ofString "old"))) .nil)))))))))))))))
 (.cons (.asg (.n 5) (.bin .add (.x 5) (.lst (.cons false (.c (.str (Str.ofString "lacks"))) (.cons false (.c (.str (Str.ofString "nobody"))) (.cons false (.c (.str (Str.ofString "formula"))) .nil))))))
 (.cons (.ifs (.cmp .eq (.x 3) (.c (.int 0)))
 (.cons (.ret (.comp [12] (.n 12) (.range (.cons false (.x 1) .nil)) .none (.bm (.x 5) .pop (.cons false (.call 42 (.cons false (.x 0) (.cons false (.prim .len (.cons false (.x 5) .nil)) .nil)) []) .nil))))
 .nil)
 .nil)
 (.cons (.asg (.n 6) (.bm (.c (.str (Str.ofString ""))) .join (.cons false (.comp [12] (.n 12) (.range (.cons false (.c (.int 8)) .nil)) .none (.ix (.x 2) (.call 42 (.cons false (.x 0) (.cons false (.c (.int 26)) .nil)) []))) .nil)))
 (.cons (.ifs (.cmp .eq (.x 3) (.c (.int 1)))
 (.cons (.asg (.t [(.n 7), (.n 8), (.n 9)]) (.tup (.cons false (.call 42 (.cons false (.x 0) (.cons false (.c (.int 8)) .nil)) []) (.cons false (.call 42 (.cons false (.x 0) (.cons false (.c (.int 26)) .nil)) []) (.cons false (.ix (.lst (.cons false (.c (.int 1)) (.cons false (.c (.int 3)) (.cons false (.c (.int 7)) (.cons false (.c (.int 11)) (.cons false (.c (.int 25)) .nil)))))) (.call 42 (.cons false (.x 0) (.cons false (.c (.int 5)) .nil)) [])) .nil)))))
 (.cons (.asg (.n 10) (.sl (.x 6) (.some (.x 7)) (.some (.bin .add (.x 7) (.call 42 (.cons false (.x 0) (.cons false (.bin .sub (.c (.int 8)) (.x 7)) .nil)) [])))))
 (.cons (.ret (.comp [12] (.n 12) (.range (.cons false (.x 1) .nil)) .none (.bin .add (.bin .add (.sl (.x 6) .none (.some (.x 7))) (.ix (.x 2) (.bin .mod (.prim .int (.cons false (.bin .add (.x 8) (.bin .mul (.x 9) (.x 12))) .nil)) (.c (.int 26))))) (.x 10))))
 .nil)))
 .nil)
 (.cons (.ifs (.and (.cmp .eq (.x 3) (.c (.int 2))) (.cmp .lt (.x 1) (.c (.int 9))))
 (.cons (.asg (.n 11) (.lst (.cons false (.c (.int 1)) (.cons false (.c (.int 2)) (.cons false (.c (.int 3)) (.cons false (.c (.int 4)) (.cons false (.c (.int 5)) (.cons false (.c (.int 6)) (.cons false (.c (.int 7)) (.cons false (.c (.int 8)) .nil))))))))))
 (.cons (.ret (.comp [12] (.n 12) (.range (.cons false (.x 1) .nil)) .none (.sl (.x 6) .none (.some (.bm (.x 11) .pop (.cons false (.call 42 (.cons false (.x 0) (.cons false (.prim .len (.cons false (.x 11) .nil)) .nil)) []) .nil))))))
 .nil))
 .nil)
 (.cons (.for (.n 12) (.range (.cons false (.x 1) .nil))
 (.cons (.asg (.n 13) (.bm (.c (.str (Str.ofString ""))) .join (.cons false (.comp [14] (.n 14) (.range (.cons false (.bin .add (.c (.int 1)) (.call 42 (.cons false (.x 0) (.cons false (.c (.int 8)) .nil)) [])) .nil)) .none (.ix (.x 2) (.call 42 (.cons false (.x 0) (.cons false (.c (.int 26)) .nil)) []))) .nil)))
 (.cons (.ifs (.cmp .isin (.x 13) (.x 4))
 (.cons (.asg (.n 13) (.ix (.comp [15] (.n 15) (.e (.x 2)) (.some (.cmp .notin (.x 15) (.x 4))) (.x 15)) (.c (.int 0))))
 .nil)
 .nil)
 (.cons (.ex (.bm (.x 4) .append (.cons false (.x 13) .nil)))
 .nil))))
 (.cons (.ret (.x 4))
 .nil))))))))) }
/-- _law_any_plan -/
def ir__law_any_plan : Fn := { np := 2, ns := 15, reb := [], dp := false, body :=
 (.cons (.par [(.n 2), (.n 3)] (.cons false (.bin .add (.c (.int 1)) (.call 42 (.cons false (.x 0) (.cons false (.ix (.x 1) (.c (.int 0))) .nil)) [])) (.cons false (.bin .add (.c (.int 1)) (.call 42 (.cons false (.x 0) (.cons false (.ix (.x 1) (.c (.int 1))) .nil)) [])) .nil)))
 (.cons (.ifs (.cmp .eq (.call 42 (.cons false (.x 0) (.cons false (.c (.int 9)) .nil)) []) (.c (.int 0)))
 (.cons (.asg (.n 3) (.c (.int 0)))
 .nil)
 .nil)
 (.cons (.par [(.n 4), (.n 5)] (.cons false (.call 52 (.cons false (.x 0) (.cons false (.bin .add (.x 2) (.x 3)) .nil)) []) (.cons false (.call 52 (.cons false (.x 0) (.cons false (.bin .add (.c (.int 1)) (.call 42 (.cons false (.x 0) (.cons false (.c (.int 3)) .nil)) [])) .nil)) []) .nil)))
 (.cons (.asg (.n 6) (.lst .nil))
 (.cons (.for (.n 7) (.range (.cons false (.bin .add (.c (.int 1)) (.call 42 (.cons false (.x 0) (.cons false (.ix (.x 1) (.c (.int 2))) .nil)) [])) .nil))
 (.cons (.asg (.n 8) (.lst .nil))
 (.cons (.for (.n 9) (.range (.cons false (.x 2) (.cons false (.bin .add (.x 2) (.x 3)) .nil)))
 (.cons (.par [(.n 10), (.n 11)] (.cons false (.prim .lst (.cons false (.sl (.x 4) .none (.some (.x 9))) .nil)) (.cons false (.lst .nil) .nil)))
 (.cons (.for (.n 12) (.range (.cons false (.prim .min2 (.cons false (.x 9) (.cons false (.call 42 (.cons false (.x 0) (.cons false (.bin .add (.ix (.x 1) (.c (.int 3))) (.c (.int 1))) .nil)) []) .nil))) .nil))
 (.cons (.ex (.bm (.x 11) .append (.cons false (.bm (.x 10) .pop (.cons false (.call 42 (.cons false (.x 0) (.cons false (.prim .len (.cons false (.x 10) .nil)) .nil)) []) .nil)) .nil)))
 .nil))
 (.cons (.ifs (.and (.cmp .ne (.x 8) (.lst .nil)) (.cmp .eq (.call 42 (.cons false (.x 0) (.cons false (.c (.int 4)) .nil)) []) (.c (.int 0))))
 (.cons (.asg (.n 11) (.bin .add (.lst (.cons false (.ix (.x 4) (.bin .sub (.x 9) (.c (.int 1)))) .nil)) (.sl (.ix (.ix (.x 8) (.neg (.c (.int 1)))) (.c (.int 2))) .none (.some (.c (.int 1))))))
 .nil)
 .nil)
 (.cons (.asg (.n 13) (.ix (.lst (.cons false (.c (.str (Str.ofString "read"))) (.cons false (.c (.str (Str.ofString "follows"))) (.cons false (.c (.str (Str.ofString "stays"))) .nil)))) (.call 42 (.cons false (.x 0) (.cons false (.c (.int 3)) .nil)) [])))
 (.cons (.ex (.bm (.x 8) .append (.cons false (.tup (.cons false (.ix (.x 4) (.x 9)) (.cons false (.ix (.x 5) (.call 42 (.cons false (.x 0) (.cons false (.prim .len (.cons false (.x 5) .nil)) .nil)) [])) (.cons false (.x 11) (.cons false (.x 13) .nil))))) .nil)))
 .nil))))))
 (.cons (.ifs (.and (.cmp .ne (.x 6) (.lst .nil)) (.and (.cmp .gt (.x 3) (.c (.int 0))) (.cmp .eq (.call 42 (.cons false (.x 0) (.cons false (.c (.int 2)) .nil)) []) (.c (.int 0)))))
 (.cons (.asg (.n 14) (.call 42 (.cons false (.x 0) (.cons false (.x 3) .nil)) []))
 (.cons (.asg (.n 8) (.bin .add (.bin .add (.sl (.ix (.x 6) (.neg (.c (.int 1)))) .none (.some (.x 14))) (.sl (.x 8) (.some (.x 14)) (.some (.bin .add (.x 14) (.c (.int 1)))))) (.sl (.ix (.x 6) (.neg (.c (.int 1)))) (.some (.bin .add (.x 14) (.c (.int 1)))) .none)))
 .nil))
 .nil)
 (.cons (.ex (.bm (.x 6) .append (.cons false (.x 8) .nil)))
 .nil)))))
 (.cons (.ret (.tup (.cons false (.sl (.x 4) .none (.some (.x 2))) (.cons false (.x 6) .nil))))
 .nil)))))) }
/-- _law_copied -/
def ir__law_copied : Fn := { np := 1, ns := 4, reb := [], dp := false, body :=
 (.cons (.asg (.n 1) (.lst .nil))
 (.cons (.for (.n 2) (.e (.x 0))
 (.cons (.ex (.bm (.x 1) .append (.cons false (.comp [3] (.n 3) (.e (.x 2)) .none (.tup (.cons false (.ix (.x 3) (.c (.int 0))) (.cons false (.ix (.x 3) (.c (.int 1))) (.cons false (.prim .lst (.cons false (.ix (.x 3) (.c (.int 2))) .nil)) (.cons false (.ix (.x 3) (.c (.int 3))) .nil)))))) .nil)))
 .nil))
 (.cons (.ret (.x 1))
 .nil))) }
/-- _law_table_of -/
def ir__law_table_of : Fn := { np := 1, ns := 1, reb := [], dp := false, body :=
 (.cons (.ret (.make 110 (.cons false (.prim .lst (.cons false (.ix (.x 0) (.c (.int 0))) .nil)) (.cons false (.call 54 (.cons false (.ix (.x 0) (.c (.int 1))) .nil) []) .nil)) []))
 .nil) }
/-- _law_every_deed -/
def ir__law_every_deed : Fn := { np := 1, ns := 4, reb := [], dp := false, body :=
 (.cons (.asg (.n 1) (.bin .add (.lst (.cons false (.tup (.cons false (.c (.str (Str.ofString "put"))) .nil)) .nil)) (.comp [2] (.n 2) (.e (.ix (.x 0) (.c (.int 0)))) .none (.tup (.cons false (.c (.str (Str.ofString "set"))) (.cons false (.x 2) .nil))))))
 (.cons (.ret (.bin .add (.bin .add (.x 1) (.comp [3] (.n 3) (.e (.ix (.ix (.x 0) (.c (.int 1))) (.c (.int 0)))) .none (.tup (.cons false (.c (.str (Str.ofString "rewrite"))) (.cons false (.ix (.x 3) (.c (.int 0))) .nil))))) (.lst (.cons false (.tup (.cons false (.c (.str (Str.ofString "edition"))) .nil)) .nil))))
 .nil)) }
/-- _law_asked -/
def ir__law_asked : Fn := { np := 2, ns := 3, reb := [], dp := true, body :=
 (.cons (.ret (.lst (.cons false (.fld (.x 0) 213) (.cons false (.fld (.x 0) 203) (.cons false (.fld (.x 0) 201) (.cons false (.prim .len (.cons false (.x 0) .nil)) (.cons false (.um (.x 0) 29 .nil []) (.cons false (.comp [2] (.n 2) (.e (.x 1)) .none (.ix (.x 0) (.x 2))) .nil))))))))
 .nil) }
/-- _law_items_spoilt -/
def ir__law_items_spoilt : Fn := { np := 1, ns := 3, reb := [], dp := false, body :=
 (.cons (.for (.n 1) (.e (.ix (.x 0) (.c (.int 1))))
 (.cons (.for (.n 2) (.e (.x 1))
 (.cons (.wipe [2] (.ex (.bm (.ix (.x 2) (.c (.int 2))) .append (.cons false (.c (.str (Str.ofString "x"))) .nil))))
 .nil))
 (.cons (.wipe [1] (.ex (.bm (.x 1) .append (.cons false (.c (.str (Str.ofString "x"))) .nil))))
 .nil)))
 (.cons (.for (.n 1) (.e (.ix (.x 0) (.c (.int 5))))
 (.cons (.for (.n 2) (.e (.x 1))
 (.cons (.wipe [2] (.ex (.bm (.ix (.x 2) (.c (.int 1))) .insert (.cons false (.c (.int 0)) (.cons false (.c (.str (Str.ofString "x"))) .nil)))))
 .nil))
 (.cons (.wipe [1] (.ex (.bm (.x 1) .pop .nil)))
 .nil)))
 (.cons (.ex (.bm (.ix (.x 0) (.c (.int 0))) .append (.cons false (.c (.str (Str.ofString "x"))) .nil)))
 (.cons (.ex (.bm (.ix (.x 0) (.c (.int 1))) .pop .nil))
 (.cons (.ex (.bm (.ix (.x 0) (.c (.int 2))) .insert (.cons false (.c (.int 0)) (.cons false (.c (.str (Str.ofString "x"))) .nil))))
 (.cons (.ex (.bm (.ix (.x 0) (.c (.int 4))) .clear .nil))
 .nil)))))) }
/-- _law_refused -/
def ir__law_refused : Fn := { np := 2, ns := 4, reb := [], dp := false, body :=
 (.cons (.wipe [2] (.asg (.n 2) (.c .none)))
 (.cons (.tr (.cons (.asg (.n 2) (.lst (.cons false (.ix (.x 0) (.x 1)) .nil)))
 .nil)
 (.cons [103] (some 3)
 (.cons (.asg (.n 2) (.fld (.x 3) 200))
 .nil)
 .nil))
 (.cons (.ret (.x 2))
 .nil))) }
/-- _law_table_right -/
def ir__law_table_right : Fn := { np := 3, ns := 13, reb := [], dp := false, body :=
 (.cons (.asg (.n 3) (.comp [11] (.n 11) (.e (.ix (.ix (.x 0) (.c (.int 1))) (.c (.int 0)))) .none (.ix (.x 11) (.c (.int 0)))))
 (.cons (.asg (.n 4) (.lst .nil))
 (.cons (.for (.n 5) (.e (.x 3))
 (.cons (.wipe [5] (.asg (.n 6) (.bm (.x 3) .index (.cons false (.x 5) .nil))))
 (.cons (.wipe [5, 6] (.ex (.bm (.x 4) .append (.cons false (.comp [12] (.n 12) (.e (.ix (.x 0) (.c (.int 1)))) .none (.tup (.cons false (.ix (.ix (.x 12) (.x 6)) (.c (.int 1))) (.cons false (.ix (.ix (.x 12) (.x 6)) (.c (.int 2))) (.cons false (.ix (.ix (.x 12) (.x 6)) (.c (.int 3))) .nil))))) .nil))))
 .nil)))
 (.cons (.wipe [4] (.asg (.n 7) (.lst (.cons false (.ix (.x 0) (.c (.int 0))) (.cons false (.ix (.x 0) (.c (.int 1))) (.cons false (.x 3) (.cons false (.prim .len (.cons false (.ix (.x 0) (.c (.int 1))) .nil)) (.cons false (.call 56 (.cons false (.x 0) .nil) []) (.cons false (.x 4) .nil)))))))))
 (.cons (.wipe [3, 7] (.for (.n 8) (.range (.cons false (.c (.int 3)) .nil))
 (.cons (.wipe [8] (.asg (.n 9) (.call 57 (.cons false (.x 1) (.cons false (.x 3) .nil)) [])))
 (.cons (.ifs (.cmp .ne (.prim .repr (.cons false (.x 9) .nil)) (.prim .repr (.cons false (.x 7) .nil)))
 (.cons (.ret (.c (.bool false)))
 .nil)
 .nil)
 (.cons (.for (.n 10) (.e (.x 2))
 (.cons (.wipe [10] (.ifs (.and (.cmp .notin (.x 10) (.x 3)) (.cmp .ne (.prim .repr (.cons false (.call 59 (.cons false (.x 1) (.cons false (.x 10) .nil)) []) .nil)) (.prim .repr (.cons false (.x 10) .nil))))
 (.cons (.ret (.c (.bool false)))
 .nil)
 .nil))
 .nil))
 (.cons (.wipe [8, 9] (.ex (.call 58 (.cons false (.x 9) .nil) [])))
 .nil))))))
 (.cons (.ret (.c (.bool true)))
 .nil)))))) }
/-- law -/
def ir_law_v1 : Fn := { np := 1, ns := 7, reb := [], dp := false, body :=
 (.cons (.for (.n 1) (.range (.cons false (.prim .max2 (.cons false (.c (.int 1)) (.cons false (.prim .min2 (.cons false (.c (.int 6)) (.cons false (.prim .len (.cons false (.x 0) .nil)) .nil))) .nil))) .nil))
 (.cons (.wipe [1] (.asg (.n 2) (.call 41 (.cons false (.x 0) (.cons false (.x 1) .nil)) [])))
 (.cons (.wipe [2] (.asg (.n 3) (.call 53 (.cons false (.x 2) (.cons false (.ix (.lst (.cons false (.tup (.cons false (.c (.int 6)) (.cons false (.c (.int 8)) (.cons false (.c (.int 8)) (.cons false (.c (.int 6)) .nil))))) (.cons false (.tup (.cons false (.c (.int 2)) (.cons false (.c (.int 3)) (.cons false (.c (.int 3)) (.cons false (.c (.int 2)) .nil))))) .nil))) (.call 42 (.cons false (.x 2) (.cons false (.c (.int 2)) .nil)) [])) .nil)) [])))
 (.cons (.asg (.n 4) (.bin .add (.bin .add (.lst (.cons false (.c (.str (Str.ofString ""))) (.cons false (.c (.str (Str.ofString "put"))) (.cons false (.c (.str (Str.ofString "edition"))) .nil)))) (.ix (.x 3) (.c (.int 0)))) (.comp [6] (.n 6) (.e (.ix (.ix (.x 3) (.c (.int 1))) (.c (.int 0)))) .none (.ix (.x 6) (.c (.int 1))))))
 (.cons (.asg (.n 4) (.bin .add (.bin .add (.x 4) (.comp [6] (.n 6) (.e (.ix (.ix (.x 3) (.c (.int 1))) (.c (.int 0)))) .none (.sl (.ix (.x 6) (.c (.int 0))) .none (.some (.neg (.c (.int 1))))))) (.comp [6] (.n 6) (.e (.ix (.ix (.x 3) (.c (.int 1))) (.c (.int 0)))) .none (.bin .add (.ix (.x 6) (.c (.int 0))) (.c (.str (Str.ofString "z")))))))
 (.cons (.asg (.n 4) (.bin .add (.bin .add (.x 4) (.comp [6] (.n 6) (.e (.sl (.ix (.ix (.x 3) (.c (.int 1))) (.c (.int 0))) .none (.some (.c (.int 3))))) .none (.bin .add (.ix (.x 6) (.c (.int 0))) (.c (.str (Str.ofString " ")))))) (.comp [6] (.n 6) (.e (.sl (.ix (.ix (.x 3) (.c (.int 1))) (.c (.int 0))) .none (.some (.c (.int 3))))) .none (.bm (.ix (.x 6) (.c (.int 0))) .upper .nil))))
 (.cons (.ifs (.nt (.call 60 (.cons false (.x 3) (.cons false (.call 55 (.cons false (.x 3) .nil) []) (.cons false (.x 4) .nil))) []))
 (.cons (.ret (.c (.bool false)))
 .nil)
 .nil)
 (.cons (.asg (.n 5) (.make 110 (.cons false (.call 54 (.cons false (.ix (.x 3) (.c (.int 1))) .nil) []) (.cons false (.prim .lst (.cons false (.ix (.x 3) (.c (.int 0))) .nil)) .nil)) [1, 0]))
 (.cons (.wipe [1, 3, 4, 5] (.ifs (.nt (.call 60 (.cons false (.x 3) (.cons false (.x 5) (.cons false (.sl (.x 4) .none (.some (.c (.int 4)))) .nil))) []))
 (.cons (.ret (.c (.bool false)))
 .nil)
 .nil))
 .nil)))))))))
 (.cons (.ret (.c (.bool true)))
 .nil)) }
def Pg : Prg where
  fn := fun i => match i with
    | 28 => some ir_is_name
    | 29 => some ir_check_names
    | 30 => some ir_check_sources
    | 31 => some ir_check_edition
    | 32 => some ir_Table___init__
    | 33 => some ir_Table_plain
    | 34 => some ir_Table_editions
    | 35 => some ir_Table_columns
    | 36 => some ir_Table___getitem__
    | 38 => some ir_Table___len__
    | 40 => some ir_Table_deeds
    | 41 => some ir__law_source
    | 42 => some ir__law_draw
    | 52 => some ir__law_some_titles
    | 53 => some ir__law_any_plan
    | 54 => some ir__law_copied
    | 55 => some ir__law_table_of
    | 56 => some ir__law_every_deed
    | 57 => some ir__law_asked
    | 58 => some ir__law_items_spoilt
    | 59 => some ir__law_refused
    | 60 => some ir__law_table_right
    | 61 => some ir_law_v1
    | _ => none
  meth := fun c m => match c, m with
  | 110, 2 => some 36
  | 110, 1 => some 38
  | 110, 29 => some 40
  | _, _ => none
  prop := fun c f => match c, f with
  | 110, 213 => some 33
  | 110, 203 => some 34
  | 110, 201 => some 35
  | _, _ => none
  init := fun c => match c with
  | 110 => some 32
  | _ => none
  sub := fun c d => match c with
  | 100 => [100].contains d
  | 101 => [101, 100].contains d
  | 102 => [102, 100].contains d
  | 103 => [103, 100].contains d
  | 104 => [104, 100].contains d
  | 106 => [106, 100].contains d
  | _ => false
def fldT : List (Nat × Str) := [(200, "value"), (201, "columns"), (202, "edition"), (203, "editions"), (204, "history"), (205, "kept_column"), (206, "kept_deeds"), (207, "kept_editions"), (208, "kept_entries"), (209, "kept_plain"), (210, "kept_steps"), (211, "kept_table"), (212, "kept_way"), (213, "plain")]
def wd (K : PySem.W.Frag) : Wd where
  K := K
  cls := fun c => match c with
  | 100 => some (ga K "WorthError")
  | 101 => some (ga K "InvalidName")
  | 102 => some (ga K "DoubleName")
  | 103 => some (ga K "UnknownColumn")
  | 104 => some (ga K "InvalidEdition")
  | 106 => some (ga K "InvalidKind")
  | _ => none
  ins := fun c => match c with
  | 110 => some (ga K "Table")
  | _ => none
  fld := fldOf fldT
  fldInj := fldOf_inj (by decide +kernel) (by decide +kernel)
def drs : List (Nat × At × List Str) := [(2, .m "WorthError" "__init__", ["self", "value"]),
  (28, .g "is_name", ["text"]),
  (29, .g "check_names", ["names"]),
  (30, .g "check_sources", ["sources", "known"]),
  (31, .g "check_edition", ["names", "rules"]),
  (32, .m "Table" "__init__", ["self", "plain", "editions"]),
  (33, .p "Table" "plain", ["self"]),
  (34, .p "Table" "editions", ["self"]),
  (35, .p "Table" "columns", ["self"]),
  (36, .m "Table" "__getitem__", ["self", "column"]),
  (38, .m "Table" "__len__", ["self"]),
  (40, .m "Table" "deeds", ["self"]),
  (41, .g "_law_source", ["script", "place"]),
  (42, .g "_law_draw", ["sack", "many"]),
  (52, .g "_law_some_titles", ["sack", "many"]),
  (53, .g "_law_any_plan", ["sack", "sizes"]),
  (54, .g "_law_copied", ["rules_here"]),
  (55, .g "_law_table_of", ["plan"]),
  (56, .g "_law_every_deed", ["plan"]),
  (57, .g "_law_asked", ["made", "titles"]),
  (58, .g "_law_items_spoilt", ["told"]),
  (59, .g "_law_refused", ["made", "wording"]),
  (60, .g "_law_table_right", ["plan", "made", "strange"]),
  (61, .g "law", ["script"])]
abbrev AllG (P : Program) (w : World) (K : PySem.W.Frag) (mg : Str → Option Value) (base : Heap) (n : Nat) : Prop := ∀ (i : Nat) (q : Nat × At × List Str), drs[i]? = some q → FnG P w K mg base (2 * n) (q.2.1.adr K) (fdOf K (q.2.1.adr K)) q.2.2 (spD (wd K) (callW Pg n q.1))
def exs (K : PySem.W.Frag) : List Bool := [glosB K ["DoubleName", "is_name", "InvalidName", "UnknownColumn", "InvalidKind", "check_sources", "InvalidEdition", "check_edition", "check_names", "_law_draw", "_law_some_titles", "Table", "_law_copied", "_law_items_spoilt", "_law_refused", "_law_asked", "_law_every_deed", "_law_table_right", "_law_table_of", "_law_any_plan", "_law_source"],
  freesB K ["all", "len", "enumerate", "list", "tuple", "int", "max", "abs", "range", "min", "repr"],
  noLists K,
  strB K "LETTERS" "abcdefghijklmnopqrstuvwxyz",
  tupTB K "WAYS_TO_HOLD" [Str.ofString "read", Str.ofString "follows", Str.ofString "stays"],
  lowB K "WorthError" "WorthError",
  lowB K "WorthError" "InvalidName",
  lowB K "WorthError" "DoubleName",
  lowB K "WorthError" "UnknownColumn",
  lowB K "WorthError" "InvalidEdition",
  lowB K "WorthError" "InvalidKind",
  decide (PySem.W.exmOne K (.ref (ga K "WorthError")) (.ref (ga K "DoubleName")) = some false),
  decide (PySem.W.exmOne K (.ref (ga K "InvalidName")) (.ref (ga K "DoubleName")) = some false),
  decide (PySem.W.exmOne K (.ref (ga K "DoubleName")) (.ref (ga K "DoubleName")) = some true),
  decide (PySem.W.exmOne K (.ref (ga K "UnknownColumn")) (.ref (ga K "DoubleName")) = some false),
  decide (PySem.W.exmOne K (.ref (ga K "InvalidEdition")) (.ref (ga K "DoubleName")) = some false),
  decide (PySem.W.exmOne K (.ref (ga K "InvalidKind")) (.ref (ga K "DoubleName")) = some false),
  decide (PySem.W.exmOne K (.ref (ga K "WorthError")) (.ref (ga K "InvalidName")) = some false),
  decide (PySem.W.exmOne K (.ref (ga K "InvalidName")) (.ref (ga K "InvalidName")) = some true),
  decide (PySem.W.exmOne K (.ref (ga K "DoubleName")) (.ref (ga K "InvalidName")) = some false),
  decide (PySem.W.exmOne K (.ref (ga K "UnknownColumn")) (.ref (ga K "InvalidName")) = some false),
  decide (PySem.W.exmOne K (.ref (ga K "InvalidEdition")) (.ref (ga K "InvalidName")) = some false),
  decide (PySem.W.exmOne K (.ref (ga K "InvalidKind")) (.ref (ga K "InvalidName")) = some false),
  decide (PySem.W.exmOne K (.ref (ga K "WorthError")) (.ref (ga K "UnknownColumn")) = some false),
  decide (PySem.W.exmOne K (.ref (ga K "InvalidName")) (.ref (ga K "UnknownColumn")) = some false),
  decide (PySem.W.exmOne K (.ref (ga K "DoubleName")) (.ref (ga K "UnknownColumn")) = some false),
  decide (PySem.W.exmOne K (.ref (ga K "UnknownColumn")) (.ref (ga K "UnknownColumn")) = some true),
  decide (PySem.W.exmOne K (.ref (ga K "InvalidEdition")) (.ref (ga K "UnknownColumn")) = some false),
  decide (PySem.W.exmOne K (.ref (ga K "InvalidKind")) (.ref (ga K "UnknownColumn")) = some false),
  decide (PySem.W.exmOne K (.ref (ga K "WorthError")) (.ref (ga K "InvalidKind")) = some false),
  decide (PySem.W.exmOne K (.ref (ga K "InvalidName")) (.ref (ga K "InvalidKind")) = some false),
  decide (PySem.W.exmOne K (.ref (ga K "DoubleName")) (.ref (ga K "InvalidKind")) = some false),
  decide (PySem.W.exmOne K (.ref (ga K "UnknownColumn")) (.ref (ga K "InvalidKind")) = some false),
  decide (PySem.W.exmOne K (.ref (ga K "InvalidEdition")) (.ref (ga K "InvalidKind")) = some false),
  decide (PySem.W.exmOne K (.ref (ga K "InvalidKind")) (.ref (ga K "InvalidKind")) = some true),
  decide (PySem.W.exmOne K (.ref (ga K "WorthError")) (.ref (ga K "InvalidEdition")) = some false),
  decide (PySem.W.exmOne K (.ref (ga K "InvalidName")) (.ref (ga K "InvalidEdition")) = some false),
  decide (PySem.W.exmOne K (.ref (ga K "DoubleName")) (.ref (ga K "InvalidEdition")) = some false),
  decide (PySem.W.exmOne K (.ref (ga K "UnknownColumn")) (.ref (ga K "InvalidEdition")) = some false),
  decide (PySem.W.exmOne K (.ref (ga K "InvalidEdition")) (.ref (ga K "InvalidEdition")) = some true),
  decide (PySem.W.exmOne K (.ref (ga K "InvalidKind")) (.ref (ga K "InvalidEdition")) = some false),
  gloB K "law",
  clsB K (ga K "Table"),
  noatB K (ga K "Table") ["value", "kept_editions", "kept_plain"],
  mkrB K (ga K "Table"),
  methB K (ga K "Table") "__init__",
  PySem.W.fnIn K (ma K (ga K "Table") "__init__"),
  propB K (ga K "Table") "plain",
  propB K (ga K "Table") "editions",
  propB K (ga K "Table") "columns",
  methB K (ga K "Table") "__getitem__",
  PySem.W.fnIn K (ma K (ga K "Table") "__getitem__"),
  methB K (ga K "Table") "__len__",
  PySem.W.fnIn K (ma K (ga K "Table") "__len__"),
  methB K (ga K "Table") "deeds",
  PySem.W.fnIn K (ma K (ga K "Table") "deeds")]
abbrev Tp (K : PySem.W.Frag) (mg : Str → Option Value) : Prop := Top fn exs K mg
section
variable {P : Program} {w : World} {K : PySem.W.Frag} {mg : Str → Option Value} {base : Heap} {n : Nat}
theorem gl_LETTERS (T : Tp K mg) : ∃ u, mg "LETTERS" = some u ∧ RelV (.str (Str.ofString "abcdefghijklmnopqrstuvwxyz")) u := T.str 3 rfl
theorem gl_WAYS_TO_HOLD (T : Tp K mg) : (∀ F H, RD K F H (.tuple (([Str.ofString "read", Str.ofString "follows", Str.ofString "stays"] : List Str).map .str)) (.ref (ga K "WAYS_TO_HOLD"))) ∧ mg "WAYS_TO_HOLD" = some (.ref (ga K "WAYS_TO_HOLD")) := T.tupT 4 rfl (by decide +kernel) (by decide)
theorem fd_low (T : Tp K mg) : FunD K "__init__" "WorthError.__init__" (PySem.LowX.iA ⟨4, 17, 4, 21⟩ ⟨4, 23, 4, 28⟩) (PySem.LowX.iB ⟨5, 8, 5, 12⟩ ⟨5, 8, 5, 18⟩ ⟨5, 21, 5, 26⟩ ⟨5, 8, 5, 26⟩) PySem.LowX.iS [] [] (ma K (ga K "WorthError") "__init__") (fdOf K (ma K (ga K "WorthError") "__init__")) := T.def_ (d := dd (.m "WorthError" "__init__") "__init__" "WorthError.__init__" (mth 1 0)) 0 rfl
theorem low_WorthError (T : Tp K mg) : PySem.LowX.LowTxt "WorthError" K mg (ga K "WorthError") (ma K (ga K "WorthError") "__init__") := T.low 5 rfl (fd_low T)
theorem low_InvalidName (T : Tp K mg) : PySem.LowX.LowTxt "InvalidName" K mg (ga K "InvalidName") (ma K (ga K "WorthError") "__init__") := T.low 6 rfl (fd_low T)
theorem low_DoubleName (T : Tp K mg) : PySem.LowX.LowTxt "DoubleName" K mg (ga K "DoubleName") (ma K (ga K "WorthError") "__init__") := T.low 7 rfl (fd_low T)
theorem low_UnknownColumn (T : Tp K mg) : PySem.LowX.LowTxt "UnknownColumn" K mg (ga K "UnknownColumn") (ma K (ga K "WorthError") "__init__") := T.low 8 rfl (fd_low T)
theorem low_InvalidEdition (T : Tp K mg) : PySem.LowX.LowTxt "InvalidEdition" K mg (ga K "InvalidEdition") (ma K (ga K "WorthError") "__init__") := T.low 9 rfl (fd_low T)
theorem low_InvalidKind (T : Tp K mg) : PySem.LowX.LowTxt "InvalidKind" K mg (ga K "InvalidKind") (ma K (ga K "WorthError") "__init__") := T.low 10 rfl (fd_low T)
theorem lows (T : Tp K mg) : ∀ c C, (wd K).cls c = some C → ∃ cn fI, PySem.LowX.LowTxt cn K mg C fI := fun c C h => by
  simp only [wd] at h
  split at h
  · cases h; exact ⟨_, _, low_WorthError T⟩
  · cases h; exact ⟨_, _, low_InvalidName T⟩
  · cases h; exact ⟨_, _, low_DoubleName T⟩
  · cases h; exact ⟨_, _, low_UnknownColumn T⟩
  · cases h; exact ⟨_, _, low_InvalidEdition T⟩
  · cases h; exact ⟨_, _, low_InvalidKind T⟩
  · cases h
theorem xm_DoubleName (T : Tp K mg) : ∀ c C, (wd K).cls c = some C → PySem.W.exmOne (wd K).K (.ref C) (.ref (ga K "DoubleName")) = some ((gam Pg n).sub c 102) := fun c C h => by
  simp only [wd] at h
  split at h
  · cases h; exact of_decide_eq_true (T.say 11 rfl)
  · cases h; exact of_decide_eq_true (T.say 12 rfl)
  · cases h; exact of_decide_eq_true (T.say 13 rfl)
  · cases h; exact of_decide_eq_true (T.say 14 rfl)
  · cases h; exact of_decide_eq_true (T.say 15 rfl)
  · cases h; exact of_decide_eq_true (T.say 16 rfl)
  · cases h
theorem xm_InvalidName (T : Tp K mg) : ∀ c C, (wd K).cls c = some C → PySem.W.exmOne (wd K).K (.ref C) (.ref (ga K "InvalidName")) = some ((gam Pg n).sub c 101) := fun c C h => by
  simp only [wd] at h
  split at h
  · cases h; exact of_decide_eq_true (T.say 17 rfl)
  · cases h; exact of_decide_eq_true (T.say 18 rfl)
  · cases h; exact of_decide_eq_true (T.say 19 rfl)
  · cases h; exact of_decide_eq_true (T.say 20 rfl)
  · cases h; exact of_decide_eq_true (T.say 21 rfl)
  · cases h; exact of_decide_eq_true (T.say 22 rfl)
  · cases h
theorem xm_UnknownColumn (T : Tp K mg) : ∀ c C, (wd K).cls c = some C → PySem.W.exmOne (wd K).K (.ref C) (.ref (ga K "UnknownColumn")) = some ((gam Pg n).sub c 103) := fun c C h => by
  simp only [wd] at h
  split at h
  · cases h; exact of_decide_eq_true (T.say 23 rfl)
  · cases h; exact of_decide_eq_true (T.say 24 rfl)
  · cases h; exact of_decide_eq_true (T.say 25 rfl)
  · cases h; exact of_decide_eq_true (T.say 26 rfl)
  · cases h; exact of_decide_eq_true (T.say 27 rfl)
  · cases h; exact of_decide_eq_true (T.say 28 rfl)
  · cases h
theorem xm_InvalidKind (T : Tp K mg) : ∀ c C, (wd K).cls c = some C → PySem.W.exmOne (wd K).K (.ref C) (.ref (ga K "InvalidKind")) = some ((gam Pg n).sub c 106) := fun c C h => by
  simp only [wd] at h
  split at h
  · cases h; exact of_decide_eq_true (T.say 29 rfl)
  · cases h; exact of_decide_eq_true (T.say 30 rfl)
  · cases h; exact of_decide_eq_true (T.say 31 rfl)
  · cases h; exact of_decide_eq_true (T.say 32 rfl)
  · cases h; exact of_decide_eq_true (T.say 33 rfl)
  · cases h; exact of_decide_eq_true (T.say 34 rfl)
  · cases h
theorem xm_InvalidEdition (T : Tp K mg) : ∀ c C, (wd K).cls c = some C → PySem.W.exmOne (wd K).K (.ref C) (.ref (ga K "InvalidEdition")) = some ((gam Pg n).sub c 104) := fun c C h => by
  simp only [wd] at h
  split at h
  · cases h; exact of_decide_eq_true (T.say 35 rfl)
  · cases h; exact of_decide_eq_true (T.say 36 rfl)
  · cases h; exact of_decide_eq_true (T.say 37 rfl)
  · cases h; exact of_decide_eq_true (T.say 38 rfl)
  · cases h; exact of_decide_eq_true (T.say 39 rfl)
  · cases h; exact of_decide_eq_true (T.say 40 rfl)
  · cases h
theorem cl_Table (T : Tp K mg) : Cls K (ga K "Table") := clsB_ok (T.say 42 rfl)
theorem na_Table_200 (T : Tp K mg) : NoAttr K (ga K "Table") "value" := noatB_ok (T.say 43 rfl) 0 rfl
theorem na_Table_207 (T : Tp K mg) : NoAttr K (ga K "Table") "kept_editions" := noatB_ok (T.say 43 rfl) 1 rfl
theorem na_Table_209 (T : Tp K mg) : NoAttr K (ga K "Table") "kept_plain" := noatB_ok (T.say 43 rfl) 2 rfl
theorem mk_Table (T : Tp K mg) : Mk K (ga K "Table") (ma K (ga K "Table") "__init__") := mkrB_ok (T.say 44 rfl)
theorem mt_Table___init__ (T : Tp K mg) : Meth K (ga K "Table") "__init__" (ma K (ga K "Table") "__init__") := methB_ok (T.say 45 rfl)
theorem fi_Table___init__ (T : Tp K mg) : PySem.W.fnIn K (ma K (ga K "Table") "__init__") = true := T.say 46 rfl
theorem pr_Table_plain (T : Tp K mg) : PropOf K (ga K "Table") "plain" (ma K (ga K "Table") "plain") (pg K (ga K "Table") "plain") := propB_ok (T.say 47 rfl)
theorem pr_Table_editions (T : Tp K mg) : PropOf K (ga K "Table") "editions" (ma K (ga K "Table") "editions") (pg K (ga K "Table") "editions") := propB_ok (T.say 48 rfl)
theorem pr_Table_columns (T : Tp K mg) : PropOf K (ga K "Table") "columns" (ma K (ga K "Table") "columns") (pg K (ga K "Table") "columns") := propB_ok (T.say 49 rfl)
theorem mt_Table___getitem__ (T : Tp K mg) : Meth K (ga K "Table") "__getitem__" (ma K (ga K "Table") "__getitem__") := methB_ok (T.say 50 rfl)
theorem fi_Table___getitem__ (T : Tp K mg) : PySem.W.fnIn K (ma K (ga K "Table") "__getitem__") = true := T.say 51 rfl
theorem mt_Table___len__ (T : Tp K mg) : Meth K (ga K "Table") "__len__" (ma K (ga K "Table") "__len__") := methB_ok (T.say 52 rfl)
theorem fi_Table___len__ (T : Tp K mg) : PySem.W.fnIn K (ma K (ga K "Table") "__len__") = true := T.say 53 rfl
theorem mt_Table_deeds (T : Tp K mg) : Meth K (ga K "Table") "deeds" (ma K (ga K "Table") "deeds") := methB_ok (T.say 54 rfl)
theorem fi_Table_deeds (T : Tp K mg) : PySem.W.fnIn K (ma K (ga K "Table") "deeds") = true := T.say 55 rfl
theorem bd_WorthError___init__ (T : Tp K mg) : Binds K (fdOf K (At.adr K (.m "WorthError" "__init__"))) ["self", "value"] [] := (T.def_ 0 rfl).bindsN fun _ _ _ _ _ _ us hl => match us, hl with | [_, _], _ => rfl
theorem bd_is_name (T : Tp K mg) : Binds K (fdOf K (At.adr K (.g "is_name"))) ["text"] [] := (T.def_ 1 rfl).bindsN fun _ _ _ _ _ _ us hl => match us, hl with | [_], _ => rfl
theorem bd_check_names (T : Tp K mg) : Binds K (fdOf K (At.adr K (.g "check_names"))) ["names"] [] := (T.def_ 2 rfl).bindsN fun _ _ _ _ _ _ us hl => match us, hl with | [_], _ => rfl
theorem bd_check_sources (T : Tp K mg) : Binds K (fdOf K (At.adr K (.g "check_sources"))) ["sources", "known"] [] := (T.def_ 3 rfl).bindsN fun _ _ _ _ _ _ us hl => match us, hl with | [_, _], _ => rfl
theorem bd_check_edition (T : Tp K mg) : Binds K (fdOf K (At.adr K (.g "check_edition"))) ["names", "rules"] [] := (T.def_ 4 rfl).bindsN fun _ _ _ _ _ _ us hl => match us, hl with | [_, _], _ => rfl
theorem bd_Table___init__ (T : Tp K mg) : Binds K (fdOf K (At.adr K (.m "Table" "__init__"))) ["self", "plain", "editions"] [] := (T.def_ 5 rfl).bindsN fun _ _ _ _ _ _ us hl => match us, hl with | [_, _, _], _ => rfl
theorem bd_Table_plain (T : Tp K mg) : Binds K (fdOf K (At.adr K (.p "Table" "plain"))) ["self"] [] := (T.def_ 6 rfl).bindsN fun _ _ _ _ _ _ us hl => match us, hl with | [_], _ => rfl
theorem bd_Table_editions (T : Tp K mg) : Binds K (fdOf K (At.adr K (.p "Table" "editions"))) ["self"] [] := (T.def_ 7 rfl).bindsN fun _ _ _ _ _ _ us hl => match us, hl with | [_], _ => rfl
theorem bd_Table_columns (T : Tp K mg) : Binds K (fdOf K (At.adr K (.p "Table" "columns"))) ["self"] [] := (T.def_ 8 rfl).bindsN fun _ _ _ _ _ _ us hl => match us, hl with | [_], _ => rfl
theorem bd_Table___getitem__ (T : Tp K mg) : Binds K (fdOf K (At.adr K (.m "Table" "__getitem__"))) ["self", "column"] [] := (T.def_ 9 rfl).bindsN fun _ _ _ _ _ _ us hl => match us, hl with | [_, _], _ => rfl
theorem bd_Table___len__ (T : Tp K mg) : Binds K (fdOf K (At.adr K (.m "Table" "__len__"))) ["self"] [] := (T.def_ 10 rfl).bindsN fun _ _ _ _ _ _ us hl => match us, hl with | [_], _ => rfl
theorem bd_Table_deeds (T : Tp K mg) : Binds K (fdOf K (At.adr K (.m "Table" "deeds"))) ["self"] [] := (T.def_ 11 rfl).bindsN fun _ _ _ _ _ _ us hl => match us, hl with | [_], _ => rfl
theorem bd__law_source (T : Tp K mg) : Binds K (fdOf K (At.adr K (.g "_law_source"))) ["script", "place"] [] := (T.def_ 12 rfl).bindsN fun _ _ _ _ _ _ us hl => match us, hl with | [_, _], _ => rfl
theorem bd__law_draw (T : Tp K mg) : Binds K (fdOf K (At.adr K (.g "_law_draw"))) ["sack", "many"] [] := (T.def_ 13 rfl).bindsN fun _ _ _ _ _ _ us hl => match us, hl with | [_, _], _ => rfl
theorem bd__law_some_titles (T : Tp K mg) : Binds K (fdOf K (At.adr K (.g "_law_some_titles"))) ["sack", "many"] [] := (T.def_ 14 rfl).bindsN fun _ _ _ _ _ _ us hl => match us, hl with | [_, _], _ => rfl
theorem bd__law_any_plan (T : Tp K mg) : Binds K (fdOf K (At.adr K (.g "_law_any_plan"))) ["sack", "sizes"] [] := (T.def_ 15 rfl).bindsN fun _ _ _ _ _ _ us hl => match us, hl with | [_, _], _ => rfl
theorem bd__law_copied (T : Tp K mg) : Binds K (fdOf K (At.adr K (.g "_law_copied"))) ["rules_here"] [] := (T.def_ 16 rfl).bindsN fun _ _ _ _ _ _ us hl => match us, hl with | [_], _ => rfl
theorem bd__law_table_of (T : Tp K mg) : Binds K (fdOf K (At.adr K (.g "_law_table_of"))) ["plan"] [] := (T.def_ 17 rfl).bindsN fun _ _ _ _ _ _ us hl => match us, hl with | [_], _ => rfl
theorem bd__law_every_deed (T : Tp K mg) : Binds K (fdOf K (At.adr K (.g "_law_every_deed"))) ["plan"] [] := (T.def_ 18 rfl).bindsN fun _ _ _ _ _ _ us hl => match us, hl with | [_], _ => rfl
theorem bd__law_asked (T : Tp K mg) : Binds K (fdOf K (At.adr K (.g "_law_asked"))) ["made", "titles"] [] := (T.def_ 19 rfl).bindsN fun _ _ _ _ _ _ us hl => match us, hl with | [_, _], _ => rfl
theorem bd__law_items_spoilt (T : Tp K mg) : Binds K (fdOf K (At.adr K (.g "_law_items_spoilt"))) ["told"] [] := (T.def_ 20 rfl).bindsN fun _ _ _ _ _ _ us hl => match us, hl with | [_], _ => rfl
theorem bd__law_refused (T : Tp K mg) : Binds K (fdOf K (At.adr K (.g "_law_refused"))) ["made", "wording"] [] := (T.def_ 21 rfl).bindsN fun _ _ _ _ _ _ us hl => match us, hl with | [_, _], _ => rfl
theorem bd__law_table_right (T : Tp K mg) : Binds K (fdOf K (At.adr K (.g "_law_table_right"))) ["plan", "made", "strange"] [] := (T.def_ 22 rfl).bindsN fun _ _ _ _ _ _ us hl => match us, hl with | [_, _, _], _ => rfl
theorem bd_law_v1 (T : Tp K mg) : Binds K (fdOf K (At.adr K (.g "law"))) ["script"] [] := (T.def_ 23 rfl).bindsN fun _ _ _ _ _ _ us hl => match us, hl with | [_], _ => rfl
theorem bk_Table_10 (T : Tp K mg) : ∀ (s : Shared) (y : Value) (ws : List Value), ws.length = [(), ()].length → BindsTo s (fdOf K (At.adr K (.m "Table" "__init__"))) ⟨[y], (["editions", "plain"] : List Str).zip ws⟩ ((["self", "plain", "editions"] : List Str).zip (y :: pk [1, 0] ws)) := fun s y ws hl => by
  obtain ⟨oc, od, dV, kV, doc, pm, an, cdv, ct, osl, e, lk, hcd, hD, hK⟩ := (T.def_ 5 rfl).ex
  rcases hD with ⟨_, rfl⟩ | ⟨e, _⟩
  · have e2 : fdOf K (At.adr K (.m "Table" "__init__")) = _ := e
    rw [e2]
    exact match ws, hl with | [_, _], _ => .of_eq rfl
  · exact absurd rfl e
theorem noEq : ∀ c, (gam Pg n).meth c m_eq = none := fun c => by
  show Pg.meth c m_eq = none
  unfold Pg
  dsimp only
  split <;> first | rfl | (rename_i h; cases h) | contradiction
theorem noVal : ∀ c, (gam Pg n).prop c f_value = none := fun c => by
  show Pg.prop c f_value = none
  unfold Pg
  dsimp only
  split <;> first | rfl | (rename_i h; cases h) | contradiction
theorem insNo (T : Tp K mg) : ∀ c C, (wd K).ins c = some C → Cls K C ∧ NoAttr K C "value" := fun c C h => by
  simp only [wd] at h
  split at h
  · cases h; exact ⟨cl_Table T, na_Table_200 T⟩
  · cases h
theorem fs_207 (T : Tp K mg) : ∀ c C, (wd K).ins c = some C → Cls K C ∧ NoAttr K C ((wd K).fld 207) := fun c C h => by
  simp only [wd] at h
  split at h
  · cases h; exact ⟨cl_Table T, na_Table_207 T⟩
  · cases h
theorem fs_209 (T : Tp K mg) : ∀ c C, (wd K).ins c = some C → Cls K C ∧ NoAttr K C ((wd K).fld 209) := fun c C h => by
  simp only [wd] at h
  split at h
  · cases h; exact ⟨cl_Table T, na_Table_209 T⟩
  · cases h
theorem fk_209 (T : Tp K mg) (A : AllG P w K mg base n) : ∀ c C, (wd K).ins c = some C → Cls K C ∧ ((gam Pg n).prop c 209 = none → NoAttr K C ((wd K).fld 209)) ∧ ∀ g, (gam Pg n).prop c 209 = some g → ∃ pr fa fd ps, PropOf K C ((wd K).fld 209) pr fa ∧ FnG P w K mg base (2 * n) fa fd ps (spD (wd K) ((gam Pg n).call g)) ∧ Binds K fd ps [] := fun c C h => by
  simp only [wd] at h
  split at h
  · cases h; exact ⟨cl_Table T, fun _ => na_Table_209 T, fun g h => (by cases h)⟩
  · cases h
theorem fk_207 (T : Tp K mg) (A : AllG P w K mg base n) : ∀ c C, (wd K).ins c = some C → Cls K C ∧ ((gam Pg n).prop c 207 = none → NoAttr K C ((wd K).fld 207)) ∧ ∀ g, (gam Pg n).prop c 207 = some g → ∃ pr fa fd ps, PropOf K C ((wd K).fld 207) pr fa ∧ FnG P w K mg base (2 * n) fa fd ps (spD (wd K) ((gam Pg n).call g)) ∧ Binds K fd ps [] := fun c C h => by
  simp only [wd] at h
  split at h
  · cases h; exact ⟨cl_Table T, fun _ => na_Table_207 T, fun g h => (by cases h)⟩
  · cases h
theorem fk_201 (T : Tp K mg) (A : AllG P w K mg base n) : ∀ c C, (wd K).ins c = some C → Cls K C ∧ ((gam Pg n).prop c 201 = none → NoAttr K C ((wd K).fld 201)) ∧ ∀ g, (gam Pg n).prop c 201 = some g → ∃ pr fa fd ps, PropOf K C ((wd K).fld 201) pr fa ∧ FnG P w K mg base (2 * n) fa fd ps (spD (wd K) ((gam Pg n).call g)) ∧ Binds K fd ps [] := fun c C h => by
  simp only [wd] at h
  split at h
  · cases h; exact ⟨cl_Table T, fun h => (by cases h), fun g h => (by cases h; exact ⟨_, _, _, _, pr_Table_columns T, A 8 _ rfl, bd_Table_columns T⟩)⟩
  · cases h
theorem fk_203 (T : Tp K mg) (A : AllG P w K mg base n) : ∀ c C, (wd K).ins c = some C → Cls K C ∧ ((gam Pg n).prop c 203 = none → NoAttr K C ((wd K).fld 203)) ∧ ∀ g, (gam Pg n).prop c 203 = some g → ∃ pr fa fd ps, PropOf K C ((wd K).fld 203) pr fa ∧ FnG P w K mg base (2 * n) fa fd ps (spD (wd K) ((gam Pg n).call g)) ∧ Binds K fd ps [] := fun c C h => by
  simp only [wd] at h
  split at h
  · cases h; exact ⟨cl_Table T, fun h => (by cases h), fun g h => (by cases h; exact ⟨_, _, _, _, pr_Table_editions T, A 7 _ rfl, bd_Table_editions T⟩)⟩
  · cases h
theorem fk_213 (T : Tp K mg) (A : AllG P w K mg base n) : ∀ c C, (wd K).ins c = some C → Cls K C ∧ ((gam Pg n).prop c 213 = none → NoAttr K C ((wd K).fld 213)) ∧ ∀ g, (gam Pg n).prop c 213 = some g → ∃ pr fa fd ps, PropOf K C ((wd K).fld 213) pr fa ∧ FnG P w K mg base (2 * n) fa fd ps (spD (wd K) ((gam Pg n).call g)) ∧ Binds K fd ps [] := fun c C h => by
  simp only [wd] at h
  split at h
  · cases h; exact ⟨cl_Table T, fun h => (by cases h), fun g h => (by cases h; exact ⟨_, _, _, _, pr_Table_plain T, A 6 _ rfl, bd_Table_plain T⟩)⟩
  · cases h
theorem getOk (T : Tp K mg) (A : AllG P w K mg base n) : ∀ c C g, (wd K).ins c = some C → (gam Pg n).meth c 2 = some g → ∃ f fd ps, PySem.W.findIn K (.ref C) "__getitem__" = some (some (.ref f)) ∧ PySem.W.fnIn K f = true ∧ PySem.W.isFn K (.ref f) = true ∧ FnG P w K mg base (2 * n) f fd ps (spD (wd K) ((gam Pg n).call g)) ∧ Binds K fd ps [] := fun c C g h hm => by
  simp only [wd] at h
  split at h
  · cases h; cases hm; exact ⟨_, _, _, (mt_Table___getitem__ T).at_, fi_Table___getitem__ T, (mt_Table___getitem__ T).fn, A 9 _ rfl, bd_Table___getitem__ T⟩
  · cases h
theorem lenOk (T : Tp K mg) (A : AllG P w K mg base n) : ∀ c C g, (wd K).ins c = some C → (gam Pg n).meth c 1 = some g → ∃ f fd ps, PySem.W.findIn K (.ref C) "__len__" = some (some (.ref f)) ∧ PySem.W.isFn K (.ref f) = true ∧ FnG P w K mg base (2 * n) f fd ps (spD (wd K) ((gam Pg n).call g)) ∧ Binds K fd ps [] := fun c C g h hm => by
  simp only [wd] at h
  split at h
  · cases h; cases hm; exact ⟨_, _, _, (mt_Table___len__ T).at_, (mt_Table___len__ T).fn, A 10 _ rfl, bd_Table___len__ T⟩
  · cases h
theorem um_deeds (T : Tp K mg) (A : AllG P w K mg base n) : (∀ j, (wd K).fld j ≠ "deeds") ∧ ∀ c C g, (wd K).ins c = some C → (gam Pg n).meth c 29 = some g → ∃ f fd ps, Cls K C ∧ Meth K C "deeds" f ∧ FnG P w K mg base (2 * n) f fd ps (spD (wd K) ((gam Pg n).call g)) ∧ Binds K fd ps [] := ⟨fldOf_ne (by decide +kernel) (by decide), fun c C g h hm => by
  simp only [wd] at h
  split at h
  · cases h; cases hm; exact ⟨_, _, _, cl_Table T, mt_Table_deeds T, A 11 _ rfl, bd_Table_deeds T⟩
  · cases h⟩
set_option maxHeartbeats 8000000 in
theorem w_is_name (T : Tp K mg) (A : AllG P w K mg base n) : FnG P w K mg base (2 * n + 2) (At.adr K (.g "is_name")) (fdOf K (At.adr K (.g "is_name"))) ["text"] (spD (wd K) (callW Pg (n + 1) 28)) :=
  def_ok (N := ["text", "letter"]) (T.def_ 1 rfl) rfl ⟨rfl, rfl, rfl, by decide +kernel, rfl, by decide +kernel, by decide +kernel⟩ rfl rfl (by decide) rfl fun cdv A0 out s H E Cx =>
 (q_scons (q_ret (q_and Cx.toXB (q_chain .le .le Cx.toXB q_int (q_len Cx (lenOk T A) (T.free 1 rfl 1 rfl) (q_acons (q_x 0) q_anil)) q_int) (pe_one (q_prim .all "all" Cx (hm := (T.free 1 rfl 0 rfl)) (hv := PyProof.Rows.boot_all) (ha := (q_acons (q_comp Cx (q_iE Cx.toXB (q_x 0)) (own' := [(Str.ofString "letter", 1)]) (blkOk_by (by kernel_rfl)) (fun s H C cl fp Cx1 => (q_gn 1 Cx1.toXB.nd)) (fun s H C cl fp Cx1 => q_ptn) (fun s H C cl fp Cx1 => (q_cmp .isin Cx1.toXB noEq (q_x 1) (q_glS (gl_LETTERS T)))) (ho := tgOwn (by decide))) q_anil))))))
 q_snil)

set_option maxHeartbeats 8000000 in
theorem w_check_names (T : Tp K mg) (A : AllG P w K mg base n) : FnG P w K mg base (2 * n + 2) (At.adr K (.g "check_names")) (fdOf K (At.adr K (.g "check_names"))) ["names"] (spD (wd K) (callW Pg (n + 1) 29)) :=
  def_ok (N := ["names", "rank", "name"]) (T.def_ 2 rfl) rfl ⟨rfl, rfl, rfl, by decide +kernel, rfl, by decide +kernel, by decide +kernel⟩ rfl rfl (by decide) rfl fun cdv A0 out s H E Cx =>
 (q_scons (q_for Cx (q_iEnum Cx.toXB (T.free 1 rfl 2 rfl) (q_x 0)) (q_gt Cx.toXB rfl (q_gcons (q_gn 1 Cx.toXB.nd) (q_gcons (q_gn 2 Cx.toXB.nd) q_gnil)))
 (q_scons (q_if (q_ntT (q_test Cx.toXB (q_call Cx.lo (A 1 _ rfl) (T.glo 0 rfl 1 rfl) (T.def_ 1 rfl).kp (bd_is_name T) (q_acons (q_x 2) q_anil))))
 (q_scons (q_raise Cx rfl rfl (low_InvalidName T) (q_x 2))
 q_snil)
 q_snil)
 (q_scons (q_if (q_cmpT .isin Cx.toXB noEq (q_x 2) (q_sl Cx.toXB (q_x 0) q_pn (q_ps (q_x 1))))
 (q_scons (q_raise Cx rfl rfl (low_DoubleName T) (q_x 2))
 q_snil)
 q_snil)
 q_snil)) (tgFx (by decide)) (fxHi rfl))
 q_snil)

set_option maxHeartbeats 8000000 in
theorem w_check_sources (T : Tp K mg) (A : AllG P w K mg base n) : FnG P w K mg base (2 * n + 2) (At.adr K (.g "check_sources")) (fdOf K (At.adr K (.g "check_sources"))) ["sources", "known"] (spD (wd K) (callW Pg (n + 1) 30)) :=
  def_ok (N := ["sources", "known", "rank", "source"]) (T.def_ 3 rfl) rfl ⟨rfl, rfl, rfl, by decide +kernel, rfl, by decide +kernel, by decide +kernel⟩ rfl rfl (by decide) rfl fun cdv A0 out s H E Cx =>
 (q_scons (q_for Cx (q_iEnum Cx.toXB (T.free 1 rfl 2 rfl) (q_x 0)) (q_gt Cx.toXB rfl (q_gcons (q_gn 2 Cx.toXB.nd) (q_gcons (q_gn 3 Cx.toXB.nd) q_gnil)))
 (q_scons (q_if (q_cmpT .notin Cx.toXB noEq (q_x 3) (q_x 1))
 (q_scons (q_raise Cx rfl rfl (low_UnknownColumn T) (q_x 3))
 q_snil)
 q_snil)
 (q_scons (q_if (q_cmpT .isin Cx.toXB noEq (q_x 3) (q_sl Cx.toXB (q_x 0) q_pn (q_ps (q_x 2))))
 (q_scons (q_raise Cx rfl rfl (low_DoubleName T) (q_x 3))
 q_snil)
 q_snil)
 q_snil)) (tgFx (by decide)) (fxHi rfl))
 q_snil)

set_option maxHeartbeats 8000000 in
theorem w_check_edition (T : Tp K mg) (A : AllG P w K mg base n) : FnG P w K mg base (2 * n + 2) (At.adr K (.g "check_edition")) (fdOf K (At.adr K (.g "check_edition"))) ["names", "rules"] (spD (wd K) (callW Pg (n + 1) 31)) :=
  def_ok (N := ["names", "rules", "known", "column", "formula", "sources", "held"]) (T.def_ 4 rfl) rfl ⟨rfl, rfl, rfl, by decide +kernel, rfl, by decide +kernel, by decide +kernel⟩ rfl rfl (by decide) rfl fun cdv A0 out s H E Cx =>
 (q_scons (q_set 2 Cx.toXB (q_primT .lst "list" Cx (hm := (T.free 1 rfl 3 rfl)) (hv := PyProof.Rows.boot_list) (ha := (q_acons (q_x 0) q_anil))))
 (q_scons (q_for Cx (q_iE Cx.toXB (q_x 1)) (q_gt Cx.toXB rfl (q_gcons (q_gn 3 Cx.toXB.nd) (q_gcons (q_gn 4 Cx.toXB.nd) (q_gcons (q_gn 5 Cx.toXB.nd) (q_gcons (q_gn 6 Cx.toXB.nd) q_gnil)))))
 (q_scons (q_if (q_ntT (q_test Cx.toXB (q_call Cx.lo (A 1 _ rfl) (T.glo 0 rfl 1 rfl) (T.def_ 1 rfl).kp (bd_is_name T) (q_acons (q_x 3) q_anil))))
 (q_scons (q_raise Cx rfl rfl (low_InvalidName T) (q_x 3))
 q_snil)
 q_snil)
 (q_scons (q_if (q_ntT (q_test Cx.toXB (q_call Cx.lo (A 1 _ rfl) (T.glo 0 rfl 1 rfl) (T.def_ 1 rfl).kp (bd_is_name T) (q_acons (q_x 4) q_anil))))
 (q_scons (q_raise Cx rfl rfl (low_InvalidName T) (q_x 4))
 q_snil)
 q_snil)
 (q_scons (q_if (q_cmpT .isin Cx.toXB noEq (q_x 3) (q_x 2))
 (q_scons (q_raise Cx rfl rfl (low_DoubleName T) (q_x 3))
 q_snil)
 q_snil)
 (q_scons (q_ex (q_call Cx.lo (A 3 _ rfl) (T.glo 0 rfl 5 rfl) (T.def_ 3 rfl).kp (bd_check_sources T) (q_acons (q_x 5) (q_acons (q_x 2) q_anil))))
 (q_scons (q_if (q_cmpT .notin Cx.toXB noEq (q_x 6) (q_glT Cx.toXB.hK (gl_WAYS_TO_HOLD T)))
 (q_scons (q_raise Cx rfl rfl (low_InvalidKind T) (q_x 6))
 q_snil)
 q_snil)
 (q_scons (q_ex (q_bm .append Cx.toXB rfl PySem.F.slot_list_append PySem.F.type_list_append (q_x 2) (q_acons (q_x 3) q_anil)))
 q_snil)))))) (tgFx (by decide)) (fxHi rfl))
 q_snil))

set_option maxHeartbeats 8000000 in
theorem w_Table___init__ (T : Tp K mg) (A : AllG P w K mg base n) : FnG P w K mg base (2 * n + 2) (At.adr K (.m "Table" "__init__")) (fdOf K (At.adr K (.m "Table" "__init__"))) ["self", "plain", "editions"] (spD (wd K) (callW Pg (n + 1) 32)) :=
  def_ok (N := ["self", "plain", "editions", "found", "index", "rules", "rule", "column", "formula", "sources", "held"]) (T.def_ 5 rfl) rfl ⟨rfl, rfl, rfl, by decide +kernel, rfl, by decide +kernel, by decide +kernel⟩ rfl rfl (by decide) rfl fun cdv A0 out s H E Cx =>
 (q_scons (q_ex (q_call Cx.lo (A 2 _ rfl) (T.glo 0 rfl 8 rfl) (T.def_ 2 rfl).kp (bd_check_names T) (q_acons (q_x 1) q_anil)))
 (q_scons (q_if (q_ntT (q_test Cx.toXB (q_x 2)))
 (q_scons (q_raise Cx rfl rfl (low_InvalidEdition T) q_int)
 q_snil)
 q_snil)
 (q_scons (q_set 3 Cx.toXB (q_lst q_dnil))
 (q_scons (q_for Cx (q_iEnum Cx.toXB (T.free 1 rfl 2 rfl) (q_x 2)) (q_gt Cx.toXB rfl (q_gcons (q_gn 4 Cx.toXB.nd) (q_gcons (q_gn 5 Cx.toXB.nd) q_gnil)))
 (q_scons (q_ex (q_call Cx.lo (A 4 _ rfl) (T.glo 0 rfl 7 rfl) (T.def_ 4 rfl).kp (bd_check_edition T) (q_acons (q_x 1) (q_acons (q_x 5) q_anil))))
 (q_scons (q_ex (q_bm .append Cx.toXB rfl PySem.F.slot_list_append PySem.F.type_list_append (q_x 3) (q_acons (q_primT .tup "tuple" Cx (hm := (T.free 1 rfl 4 rfl)) (hv := PyProof.Rows.boot_tuple) (ha := (q_acons (q_comp Cx (q_iE Cx.toXB (q_x 5)) (own' := [(Str.ofString "column", 7), (Str.ofString "formula", 8), (Str.ofString "sources", 9), (Str.ofString "held", 10)]) (blkOk_by (by kernel_rfl)) (fun s H C cl fp Cx1 => (q_gt Cx1.toXB rfl (q_gcons (q_gn 7 Cx1.toXB.nd) (q_gcons (q_gn 8 Cx1.toXB.nd) (q_gcons (q_gn 9 Cx1.toXB.nd) (q_gcons (q_gn 10 Cx1.toXB.nd) q_gnil)))))) (fun s H C cl fp Cx1 => q_ptn) (fun s H C cl fp Cx1 => (q_tup (q_dcons (q_x 7) (q_dcons (q_x 8) (q_dcons (q_primT .tup "tuple" Cx1 (hm := (T.free 1 rfl 4 rfl)) (hv := PyProof.Rows.boot_tuple) (ha := (q_acons (q_x 9) q_anil))) (q_dcons (q_x 10) q_dnil)))))) (ho := tgOwn (by decide))) q_anil))) q_anil)))
 (q_scons (q_if (q_cmpT .ne Cx.toXB noEq (q_comp Cx (q_iE Cx.toXB (q_ix Cx (getOk T A) (q_x 3) (q_x 4))) (own' := [(Str.ofString "rule", 6)]) (blkOk_by (by kernel_rfl)) (fun s H C cl fp Cx1 => (q_gn 6 Cx1.toXB.nd)) (fun s H C cl fp Cx1 => q_ptn) (fun s H C cl fp Cx1 => (q_ix Cx1 (getOk T A) (q_x 6) q_int)) (ho := tgOwn (by decide))) (q_comp Cx (q_iE Cx.toXB (q_ix Cx (getOk T A) (q_x 3) q_int)) (own' := [(Str.ofString "rule", 6)]) (blkOk_by (by kernel_rfl)) (fun s H C cl fp Cx1 => (q_gn 6 Cx1.toXB.nd)) (fun s H C cl fp Cx1 => q_ptn) (fun s H C cl fp Cx1 => (q_ix Cx1 (getOk T A) (q_x 6) q_int)) (ho := tgOwn (by decide))))
 (q_scons (q_raise Cx rfl rfl (low_InvalidEdition T) (q_x 4))
 q_snil)
 q_snil)
 q_snil))) (tgFx (by decide)) (fxHi rfl))
 (q_scons (q_setFld Cx.toXB (fs_209 T) (q_x 0) (q_primT .tup "tuple" Cx (hm := (T.free 1 rfl 4 rfl)) (hv := PyProof.Rows.boot_tuple) (ha := (q_acons (q_x 1) q_anil))))
 (q_scons (q_setFld Cx.toXB (fs_207 T) (q_x 0) (q_primT .tup "tuple" Cx (hm := (T.free 1 rfl 4 rfl)) (hv := PyProof.Rows.boot_tuple) (ha := (q_acons (q_x 3) q_anil))))
 q_snil))))))

set_option maxHeartbeats 8000000 in
theorem w_Table_plain (T : Tp K mg) (A : AllG P w K mg base n) : FnG P w K mg base (2 * n + 2) (At.adr K (.p "Table" "plain")) (fdOf K (At.adr K (.p "Table" "plain"))) ["self"] (spD (wd K) (callW Pg (n + 1) 33)) :=
  def_ok (N := ["self"]) (T.def_ 6 rfl) rfl ⟨rfl, rfl, rfl, by decide +kernel, rfl, by decide +kernel, by decide +kernel⟩ rfl rfl (by decide) rfl fun cdv A0 out s H E Cx =>
 (q_scons (q_ret (q_primT .lst "list" Cx (hm := (T.free 1 rfl 3 rfl)) (hv := PyProof.Rows.boot_list) (ha := (q_acons (q_fld Cx (fk_209 T A) (q_x 0)) q_anil))))
 q_snil)

set_option maxHeartbeats 8000000 in
theorem w_Table_editions (T : Tp K mg) (A : AllG P w K mg base n) : FnG P w K mg base (2 * n + 2) (At.adr K (.p "Table" "editions")) (fdOf K (At.adr K (.p "Table" "editions"))) ["self"] (spD (wd K) (callW Pg (n + 1) 34)) :=
  def_ok (N := ["self", "found", "rules", "column", "formula", "sources", "held"]) (T.def_ 7 rfl) rfl ⟨rfl, rfl, rfl, by decide +kernel, rfl, by decide +kernel, by decide +kernel⟩ rfl rfl (by decide) rfl fun cdv A0 out s H E Cx =>
 (q_scons (q_set 1 Cx.toXB (q_lst q_dnil))
 (q_scons (q_for Cx (q_iE Cx.toXB (q_fld Cx (fk_207 T A) (q_x 0))) (q_gn 2 Cx.toXB.nd)
 (q_scons (q_ex (q_bm .append Cx.toXB rfl PySem.F.slot_list_append PySem.F.type_list_append (q_x 1) (q_acons (q_comp Cx (q_iE Cx.toXB (q_x 2)) (own' := [(Str.ofString "column", 3), (Str.ofString "formula", 4), (Str.ofString "sources", 5), (Str.ofString "held", 6)]) (blkOk_by (by kernel_rfl)) (fun s H C cl fp Cx1 => (q_gt Cx1.toXB rfl (q_gcons (q_gn 3 Cx1.toXB.nd) (q_gcons (q_gn 4 Cx1.toXB.nd) (q_gcons (q_gn 5 Cx1.toXB.nd) (q_gcons (q_gn 6 Cx1.toXB.nd) q_gnil)))))) (fun s H C cl fp Cx1 => q_ptn) (fun s H C cl fp Cx1 => (q_tup (q_dcons (q_x 3) (q_dcons (q_x 4) (q_dcons (q_primT .lst "list" Cx1 (hm := (T.free 1 rfl 3 rfl)) (hv := PyProof.Rows.boot_list) (ha := (q_acons (q_x 5) q_anil))) (q_dcons (q_x 6) q_dnil)))))) (ho := tgOwn (by decide))) q_anil)))
 q_snil) (tgFx (by decide)) (fxHi rfl))
 (q_scons (q_ret (q_x 1))
 q_snil)))

set_option maxHeartbeats 8000000 in
theorem w_Table_columns (T : Tp K mg) (A : AllG P w K mg base n) : FnG P w K mg base (2 * n + 2) (At.adr K (.p "Table" "columns")) (fdOf K (At.adr K (.p "Table" "columns"))) ["self"] (spD (wd K) (callW Pg (n + 1) 35)) :=
  def_ok (N := ["self", "rule"]) (T.def_ 8 rfl) rfl ⟨rfl, rfl, rfl, by decide +kernel, rfl, by decide +kernel, by decide +kernel⟩ rfl rfl (by decide) rfl fun cdv A0 out s H E Cx =>
 (q_scons (q_ret (q_comp Cx (q_iE Cx.toXB (q_ix Cx (getOk T A) (q_fld Cx (fk_207 T A) (q_x 0)) q_int)) (own' := [(Str.ofString "rule", 1)]) (blkOk_by (by kernel_rfl)) (fun s H C cl fp Cx1 => (q_gn 1 Cx1.toXB.nd)) (fun s H C cl fp Cx1 => q_ptn) (fun s H C cl fp Cx1 => (q_ix Cx1 (getOk T A) (q_x 1) q_int)) (ho := tgOwn (by decide))))
 q_snil)

set_option maxHeartbeats 8000000 in
theorem w_Table___getitem__ (T : Tp K mg) (A : AllG P w K mg base n) : FnG P w K mg base (2 * n + 2) (At.adr K (.m "Table" "__getitem__")) (fdOf K (At.adr K (.m "Table" "__getitem__"))) ["self", "column"] (spD (wd K) (callW Pg (n + 1) 36)) :=
  def_ok (N := ["self", "column", "found", "rules", "title", "formula", "sources", "held"]) (T.def_ 9 rfl) rfl ⟨rfl, rfl, rfl, by decide +kernel, rfl, by decide +kernel, by decide +kernel⟩ rfl rfl (by decide) rfl fun cdv A0 out s H E Cx =>
 (q_scons (q_set 2 Cx.toXB (q_lst q_dnil))
 (q_scons (q_for Cx (q_iE Cx.toXB (q_fld Cx (fk_207 T A) (q_x 0))) (q_gn 3 Cx.toXB.nd)
 (q_scons (q_for Cx (q_iE Cx.toXB (q_x 3)) (q_gt Cx.toXB rfl (q_gcons (q_gn 4 Cx.toXB.nd) (q_gcons (q_gn 5 Cx.toXB.nd) (q_gcons (q_gn 6 Cx.toXB.nd) (q_gcons (q_gn 7 Cx.toXB.nd) q_gnil)))))
 (q_scons (q_if (q_cmpT .eq Cx.toXB noEq (q_x 4) (q_x 1))
 (q_scons (q_ex (q_bm .append Cx.toXB rfl PySem.F.slot_list_append PySem.F.type_list_append (q_x 2) (q_acons (q_tup (q_dcons (q_x 5) (q_dcons (q_primT .lst "list" Cx (hm := (T.free 1 rfl 3 rfl)) (hv := PyProof.Rows.boot_list) (ha := (q_acons (q_x 6) q_anil))) (q_dcons (q_x 7) q_dnil)))) q_anil)))
 q_snil)
 q_snil)
 q_snil) (tgFx (by decide)) (fxHi rfl))
 q_snil) (tgFx (by decide)) (fxHi rfl))
 (q_scons (q_if (q_cmpT .eq Cx.toXB noEq (q_x 2) (q_lst q_dnil))
 (q_scons (q_raise Cx rfl rfl (low_UnknownColumn T) (q_x 1))
 q_snil)
 q_snil)
 (q_scons (q_ret (q_x 2))
 q_snil))))

set_option maxHeartbeats 8000000 in
theorem w_Table___len__ (T : Tp K mg) (A : AllG P w K mg base n) : FnG P w K mg base (2 * n + 2) (At.adr K (.m "Table" "__len__")) (fdOf K (At.adr K (.m "Table" "__len__"))) ["self"] (spD (wd K) (callW Pg (n + 1) 38)) :=
  def_ok (N := ["self"]) (T.def_ 10 rfl) rfl ⟨rfl, rfl, rfl, by decide +kernel, rfl, by decide +kernel, by decide +kernel⟩ rfl rfl (by decide) rfl fun cdv A0 out s H E Cx =>
 (q_scons (q_ret (q_len Cx (lenOk T A) (T.free 1 rfl 1 rfl) (q_acons (q_fld Cx (fk_207 T A) (q_x 0)) q_anil)))
 q_snil)

set_option maxHeartbeats 8000000 in
theorem w_Table_deeds (T : Tp K mg) (A : AllG P w K mg base n) : FnG P w K mg base (2 * n + 2) (At.adr K (.m "Table" "deeds")) (fdOf K (At.adr K (.m "Table" "deeds"))) ["self"] (spD (wd K) (callW Pg (n + 1) 40)) :=
  def_ok (N := ["self", "found", "title", "rule"]) (T.def_ 11 rfl) rfl ⟨rfl, rfl, rfl, by decide +kernel, rfl, by decide +kernel, by decide +kernel⟩ rfl rfl (by decide) rfl fun cdv A0 out s H E Cx =>
 (q_scons (q_set 1 Cx.toXB (q_lst (q_dcons (q_tup (q_dcons q_str q_dnil)) q_dnil)))
 (q_scons (q_ex (q_bm .extend Cx.toXB rfl PySem.F.slot_list_extend PySem.F.type_list_extend (q_x 1) (q_acons (q_comp Cx (q_iE Cx.toXB (q_fld Cx (fk_209 T A) (q_x 0))) (own' := [(Str.ofString "title", 2)]) (blkOk_by (by kernel_rfl)) (fun s H C cl fp Cx1 => (q_gn 2 Cx1.toXB.nd)) (fun s H C cl fp Cx1 => q_ptn) (fun s H C cl fp Cx1 => (q_tup (q_dcons q_str (q_dcons (q_x 2) q_dnil)))) (ho := tgOwn (by decide))) q_anil)))
 (q_scons (q_ex (q_bm .extend Cx.toXB rfl PySem.F.slot_list_extend PySem.F.type_list_extend (q_x 1) (q_acons (q_comp Cx (q_iE Cx.toXB (q_ix Cx (getOk T A) (q_fld Cx (fk_207 T A) (q_x 0)) q_int)) (own' := [(Str.ofString "rule", 3)]) (blkOk_by (by kernel_rfl)) (fun s H C cl fp Cx1 => (q_gn 3 Cx1.toXB.nd)) (fun s H C cl fp Cx1 => q_ptn) (fun s H C cl fp Cx1 => (q_tup (q_dcons q_str (q_dcons (q_ix Cx1 (getOk T A) (q_x 3) q_int) q_dnil)))) (ho := tgOwn (by decide))) q_anil)))
 (q_scons (q_ex (q_bm .append Cx.toXB rfl PySem.F.slot_list_append PySem.F.type_list_append (q_x 1) (q_acons (q_tup (q_dcons q_str q_dnil)) q_anil)))
 (q_scons (q_ret (q_x 1))
 q_snil)))))

set_option maxHeartbeats 8000000 in
theorem w__law_source (T : Tp K mg) (A : AllG P w K mg base n) : FnG P w K mg base (2 * n + 2) (At.adr K (.g "_law_source")) (fdOf K (At.adr K (.g "_law_source"))) ["script", "place"] (spD (wd K) (callW Pg (n + 1) 41)) :=
  def_ok (N := ["script", "place", "cell"]) (T.def_ 12 rfl) rfl ⟨rfl, rfl, rfl, by decide +kernel, rfl, by decide +kernel, by decide +kernel⟩ rfl rfl (by decide) rfl fun cdv A0 out s H E Cx =>
 (q_scons (q_set 2 Cx.toXB (q_ife (q_cmpT .lt Cx.toXB noEq (q_x 1) (q_len Cx (lenOk T A) (T.free 1 rfl 1 rfl) (q_acons (q_x 0) q_anil))) (q_ix Cx (getOk T A) (q_x 0) (q_x 1)) q_int))
 (q_scons (q_ret (q_lst (q_dcons (q_prim .max2 "max" Cx (hm := (T.free 1 rfl 6 rfl)) (hv := PyProof.Rows.boot_max) (ha := (q_acons q_int (q_acons (q_bin .sub Cx.toXB (q_prim .abs "abs" Cx (hm := (T.free 1 rfl 7 rfl)) (hv := PyProof.Rows.boot_abs) (ha := (q_acons (q_x 2) q_anil))) (q_bin .pow Cx.toXB q_int q_int)) q_anil)))) (q_dcons (q_bin .mod Cx.toXB (q_primT .int "int" Cx (hm := (T.free 1 rfl 5 rfl)) (hv := PyProof.Rows.boot_int) (ha := (q_acons (q_bin .add Cx.toXB (q_bin .add Cx.toXB (q_bin .mul Cx.toXB (q_x 2) q_int) (q_bin .mul Cx.toXB (q_x 1) q_int)) q_int) q_anil))) (q_bin .add Cx.toXB (q_bin .pow Cx.toXB q_int q_int) q_int)) (q_dcons q_int q_dnil)))))
 q_snil))

set_option maxHeartbeats 8000000 in
theorem w__law_draw (T : Tp K mg) (A : AllG P w K mg base n) : FnG P w K mg base (2 * n + 2) (At.adr K (.g "_law_draw")) (fdOf K (At.adr K (.g "_law_draw"))) ["sack", "many"] (spD (wd K) (callW Pg (n + 1) 42)) :=
  def_ok (N := ["sack", "many", "drawn", "stirred"]) (T.def_ 13 rfl) rfl ⟨rfl, rfl, rfl, by decide +kernel, rfl, by decide +kernel, by decide +kernel⟩ rfl rfl (by decide) rfl fun cdv A0 out s H E Cx =>
 (q_scons (q_if (q_cmpT .gt Cx.toXB noEq (q_ix Cx (getOk T A) (q_x 0) q_int) q_int)
 (q_scons (q_set 2 Cx.toXB (q_bin .mod Cx.toXB (q_primT .int "int" Cx (hm := (T.free 1 rfl 5 rfl)) (hv := PyProof.Rows.boot_int) (ha := (q_acons (q_ix Cx (getOk T A) (q_x 0) q_int) q_anil))) (q_x 1)))
 (q_scons (q_setIx Cx.toXB (q_bin .fdiv Cx.toXB (q_ix Cx (getOk T A) (q_x 0) q_int) (q_x 1)) (q_x 0) q_int)
 (q_scons (q_ret (q_x 2))
 q_snil)))
 q_snil)
 (q_scons (q_setIx Cx.toXB (q_bin .add Cx.toXB (q_ix Cx (getOk T A) (q_x 0) q_int) q_int) (q_x 0) q_int)
 (q_scons (q_set 3 Cx.toXB (q_bin .mod Cx.toXB (q_bin .pow Cx.toXB (q_primT .int "int" Cx (hm := (T.free 1 rfl 5 rfl)) (hv := PyProof.Rows.boot_int) (ha := (q_acons (q_bin .add Cx.toXB (q_ix Cx (getOk T A) (q_x 0) q_int) (q_bin .mul Cx.toXB q_int (q_ix Cx (getOk T A) (q_x 0) q_int))) q_anil))) q_int) (q_bin .add Cx.toXB (q_bin .pow Cx.toXB q_int q_int) q_int)))
 (q_scons (q_set 3 Cx.toXB (q_bin .mod Cx.toXB (q_bin .pow Cx.toXB (q_primT .int "int" Cx (hm := (T.free 1 rfl 5 rfl)) (hv := PyProof.Rows.boot_int) (ha := (q_acons (q_bin .add Cx.toXB (q_x 3) (q_bin .mul Cx.toXB q_int (q_ix Cx (getOk T A) (q_x 0) q_int))) q_anil))) q_int) (q_bin .add Cx.toXB (q_bin .pow Cx.toXB q_int q_int) q_int)))
 (q_scons (q_ret (q_bin .mod Cx.toXB (q_primT .int "int" Cx (hm := (T.free 1 rfl 5 rfl)) (hv := PyProof.Rows.boot_int) (ha := (q_acons (q_bin .fdiv Cx.toXB (q_x 3) q_int) q_anil))) (q_x 1)))
 q_snil)))))

set_option maxHeartbeats 8000000 in
theorem w__law_some_titles (T : Tp K mg) (A : AllG P w K mg base n) : FnG P w K mg base (2 * n + 2) (At.adr K (.g "_law_some_titles")) (fdOf K (At.adr K (.g "_law_some_titles"))) ["sack", "many"] (spD (wd K) (callW Pg (n + 1) 52)) :=
  def_ok (N := ["sack", "many", "letters", "mode", "found", "menu", "stem", "at", "start", "step", "tail", "sizes", "rank", "wording", "place", "one"]) (T.def_ 14 rfl) rfl ⟨rfl, rfl, rfl, by decide +kernel, rfl, by decide +kernel, by decide +kernel⟩ rfl rfl (by decide) rfl fun cdv A0 out s H E Cx =>
 (q_scons (q_asg (q_tup (q_dcons q_str (q_dcons (q_call Cx.lo (A 13 _ rfl) (T.glo 0 rfl 9 rfl) (T.def_ 13 rfl).kp (bd__law_draw T) (q_acons (q_x 0) (q_acons q_int q_anil))) (q_dcons (q_lst q_dnil) q_dnil)))) (q_gt Cx.toXB rfl (q_gcons (q_gn 2 Cx.toXB.nd) (q_gcons (q_gn 3 Cx.toXB.nd) (q_gcons (q_gn 4 Cx.toXB.nd) q_gnil)))) (tgFx (by decide)))
 (q_scons (q_set 5 Cx.toXB (q_lst (q_dcons q_str (q_dcons q_str (q_dcons q_str (q_dcons q_str (q_dcons q_str (q_dcons q_str (q_dcons q_str (q_dcons q_str (q_dcons q_str (q_dcons q_str (q_dcons q_str (q_dcons q_str (q_dcons q_str q_dnil)))))))))))))))
 (q_scons (q_set 5 Cx.toXB (q_bin .add Cx.toXB (q_x 5) (q_lst (q_dcons q_str (q_dcons q_str (q_dcons q_str q_dnil))))))
 (q_scons (q_if (q_cmpT .eq Cx.toXB noEq (q_x 3) q_int)
 (q_scons (q_ret (q_comp Cx (q_iR1 (T.free 1 rfl 8 rfl) (q_x 1)) (own' := [(Str.ofString "rank", 12)]) (blkOk_by (by kernel_rfl)) (fun s H C cl fp Cx1 => (q_gn 12 Cx1.toXB.nd)) (fun s H C cl fp Cx1 => q_ptn) (fun s H C cl fp Cx1 => (q_bm .pop Cx1.toXB rfl PySem.F.slot_list_pop PySem.F.type_list_pop (q_x 5) (q_acons (q_call Cx1.lo (A 13 _ rfl) (T.glo 0 rfl 9 rfl) (T.def_ 13 rfl).kp (bd__law_draw T) (q_acons (q_x 0) (q_acons (q_len Cx1 (lenOk T A) (T.free 1 rfl 1 rfl) (q_acons (q_x 5) q_anil)) q_anil))) q_anil))) (ho := tgOwn (by decide))))
 q_snil)
 q_snil)
 (q_scons (q_set 6 Cx.toXB (q_rd .join Cx.toXB rfl PySem.F.plainAttrs_str PySem.F.slot_str_join PySem.F.type_str_join q_str (q_acons (q_comp Cx (q_iR1 (T.free 1 rfl 8 rfl) q_int) (own' := [(Str.ofString "rank", 12)]) (blkOk_by (by kernel_rfl)) (fun s H C cl fp Cx1 => (q_gn 12 Cx1.toXB.nd)) (fun s H C cl fp Cx1 => q_ptn) (fun s H C cl fp Cx1 => (q_ix Cx1 (getOk T A) (q_x 2) (q_call Cx1.lo (A 13 _ rfl) (T.glo 0 rfl 9 rfl) (T.def_ 13 rfl).kp (bd__law_draw T) (q_acons (q_x 0) (q_acons q_int q_anil))))) (ho := tgOwn (by decide))) q_anil)))
 (q_scons (q_if (q_cmpT .eq Cx.toXB noEq (q_x 3) q_int)
 (q_scons (q_asg (q_tup (q_dcons (q_call Cx.lo (A 13 _ rfl) (T.glo 0 rfl 9 rfl) (T.def_ 13 rfl).kp (bd__law_draw T) (q_acons (q_x 0) (q_acons q_int q_anil))) (q_dcons (q_call Cx.lo (A 13 _ rfl) (T.glo 0 rfl 9 rfl) (T.def_ 13 rfl).kp (bd__law_draw T) (q_acons (q_x 0) (q_acons q_int q_anil))) (q_dcons (q_ix Cx (getOk T A) (q_lst (q_dcons q_int (q_dcons q_int (q_dcons q_int (q_dcons q_int (q_dcons q_int q_dnil)))))) (q_call Cx.lo (A 13 _ rfl) (T.glo 0 rfl 9 rfl) (T.def_ 13 rfl).kp (bd__law_draw T) (q_acons (q_x 0) (q_acons q_int q_anil)))) q_dnil)))) (q_gt Cx.toXB rfl (q_gcons (q_gn 7 Cx.toXB.nd) (q_gcons (q_gn 8 Cx.toXB.nd) (q_gcons (q_gn 9 Cx.toXB.nd) q_gnil)))) (tgFx (by decide)))
 (q_scons (q_set 10 Cx.toXB (q_sl Cx.toXB (q_x 6) (q_ps (q_x 7)) (q_ps (q_bin .add Cx.toXB (q_x 7) (q_call Cx.lo (A 13 _ rfl) (T.glo 0 rfl 9 rfl) (T.def_ 13 rfl).kp (bd__law_draw T) (q_acons (q_x 0) (q_acons (q_bin .sub Cx.toXB q_int (q_x 7)) q_anil)))))))
 (q_scons (q_ret (q_comp Cx (q_iR1 (T.free 1 rfl 8 rfl) (q_x 1)) (own' := [(Str.ofString "rank", 12)]) (blkOk_by (by kernel_rfl)) (fun s H C cl fp Cx1 => (q_gn 12 Cx1.toXB.nd)) (fun s H C cl fp Cx1 => q_ptn) (fun s H C cl fp Cx1 => (q_bin .add Cx1.toXB (q_bin .add Cx1.toXB (q_sl Cx1.toXB (q_x 6) q_pn (q_ps (q_x 7))) (q_ix Cx1 (getOk T A) (q_x 2) (q_bin .mod Cx1.toXB (q_primT .int "int" Cx1 (hm := (T.free 1 rfl 5 rfl)) (hv := PyProof.Rows.boot_int) (ha := (q_acons (q_bin .add Cx1.toXB (q_x 8) (q_bin .mul Cx1.toXB (q_x 9) (q_x 12))) q_anil))) q_int))) (q_x 10))) (ho := tgOwn (by decide))))
 q_snil)))
 q_snil)
 (q_scons (q_if (PW.pt (q_andT (q_cmpT .eq Cx.toXB noEq (q_x 3) q_int) (q_and1T (q_cmpT .lt Cx.toXB noEq (q_x 1) q_int))))
 (q_scons (q_set 11 Cx.toXB (q_lst (q_dcons q_int (q_dcons q_int (q_dcons q_int (q_dcons q_int (q_dcons q_int (q_dcons q_int (q_dcons q_int (q_dcons q_int q_dnil))))))))))
 (q_scons (q_ret (q_comp Cx (q_iR1 (T.free 1 rfl 8 rfl) (q_x 1)) (own' := [(Str.ofString "rank", 12)]) (blkOk_by (by kernel_rfl)) (fun s H C cl fp Cx1 => (q_gn 12 Cx1.toXB.nd)) (fun s H C cl fp Cx1 => q_ptn) (fun s H C cl fp Cx1 => (q_sl Cx1.toXB (q_x 6) q_pn (q_ps (q_bm .pop Cx1.toXB rfl PySem.F.slot_list_pop PySem.F.type_list_pop (q_x 11) (q_acons (q_call Cx1.lo (A 13 _ rfl) (T.glo 0 rfl 9 rfl) (T.def_ 13 rfl).kp (bd__law_draw T) (q_acons (q_x 0) (q_acons (q_len Cx1 (lenOk T A) (T.free 1 rfl 1 rfl) (q_acons (q_x 11) q_anil)) q_anil))) q_anil))))) (ho := tgOwn (by decide))))
 q_snil))
 q_snil)
 (q_scons (q_for Cx (q_iR1 (T.free 1 rfl 8 rfl) (q_x 1)) (q_gn 12 Cx.toXB.nd)
 (q_scons (q_set 13 Cx.toXB (q_rd .join Cx.toXB rfl PySem.F.plainAttrs_str PySem.F.slot_str_join PySem.F.type_str_join q_str (q_acons (q_comp Cx (q_iR1 (T.free 1 rfl 8 rfl) (q_bin .add Cx.toXB q_int (q_call Cx.lo (A 13 _ rfl) (T.glo 0 rfl 9 rfl) (T.def_ 13 rfl).kp (bd__law_draw T) (q_acons (q_x 0) (q_acons q_int q_anil))))) (own' := [(Str.ofString "place", 14)]) (blkOk_by (by kernel_rfl)) (fun s H C cl fp Cx1 => (q_gn 14 Cx1.toXB.nd)) (fun s H C cl fp Cx1 => q_ptn) (fun s H C cl fp Cx1 => (q_ix Cx1 (getOk T A) (q_x 2) (q_call Cx1.lo (A 13 _ rfl) (T.glo 0 rfl 9 rfl) (T.def_ 13 rfl).kp (bd__law_draw T) (q_acons (q_x 0) (q_acons q_int q_anil))))) (ho := tgOwn (by decide))) q_anil)))
 (q_scons (q_if (q_cmpT .isin Cx.toXB noEq (q_x 13) (q_x 4))
 (q_scons (q_set 13 Cx.toXB (q_ix Cx (getOk T A) (q_comp Cx (q_iE Cx.toXB (q_x 2)) (own' := [(Str.ofString "one", 15)]) (blkOk_by (by kernel_rfl)) (fun s H C cl fp Cx1 => (q_gn 15 Cx1.toXB.nd)) (fun s H C cl fp Cx1 => (q_pt1 (q_cmpT .notin Cx1.toXB noEq (q_x 15) (q_x 4)))) (fun s H C cl fp Cx1 => (q_x 15)) (ho := tgOwn (by decide))) q_int))
 q_snil)
 q_snil)
 (q_scons (q_ex (q_bm .append Cx.toXB rfl PySem.F.slot_list_append PySem.F.type_list_append (q_x 4) (q_acons (q_x 13) q_anil)))
 q_snil))) (tgFx (by decide)) (fxHi rfl))
 (q_scons (q_ret (q_x 4))
 q_snil)))))))))

set_option maxHeartbeats 8000000 in
theorem w__law_any_plan (T : Tp K mg) (A : AllG P w K mg base n) : FnG P w K mg base (2 * n + 2) (At.adr K (.g "_law_any_plan")) (fdOf K (At.adr K (.g "_law_any_plan"))) ["sack", "sizes"] (spD (wd K) (callW Pg (n + 1) 53)) :=
  def_ok (N := ["sack", "sizes", "count", "many", "titles", "words", "found", "turn", "rules", "rank", "left", "some", "place", "mode", "at"]) (T.def_ 15 rfl) rfl ⟨rfl, rfl, rfl, by decide +kernel, rfl, by decide +kernel, by decide +kernel⟩ rfl rfl (by decide) rfl fun cdv A0 out s H E Cx =>
 (q_scons (q_par2 2 3 Cx (q_acons (q_bin .add Cx.toXB q_int (q_call Cx.lo (A 13 _ rfl) (T.glo 0 rfl 9 rfl) (T.def_ 13 rfl).kp (bd__law_draw T) (q_acons (q_x 0) (q_acons (q_ix Cx (getOk T A) (q_x 1) q_int) q_anil)))) (q_acons (q_bin .add Cx.toXB q_int (q_call Cx.lo (A 13 _ rfl) (T.glo 0 rfl 9 rfl) (T.def_ 13 rfl).kp (bd__law_draw T) (q_acons (q_x 0) (q_acons (q_ix Cx (getOk T A) (q_x 1) q_int) q_anil)))) q_anil)))
 (q_scons (q_if (q_cmpT .eq Cx.toXB noEq (q_call Cx.lo (A 13 _ rfl) (T.glo 0 rfl 9 rfl) (T.def_ 13 rfl).kp (bd__law_draw T) (q_acons (q_x 0) (q_acons q_int q_anil))) q_int)
 (q_scons (q_set 3 Cx.toXB q_int)
 q_snil)
 q_snil)
 (q_scons (q_par2 4 5 Cx (q_acons (q_call Cx.lo (A 14 _ rfl) (T.glo 0 rfl 10 rfl) (T.def_ 14 rfl).kp (bd__law_some_titles T) (q_acons (q_x 0) (q_acons (q_bin .add Cx.toXB (q_x 2) (q_x 3)) q_anil))) (q_acons (q_call Cx.lo (A 14 _ rfl) (T.glo 0 rfl 10 rfl) (T.def_ 14 rfl).kp (bd__law_some_titles T) (q_acons (q_x 0) (q_acons (q_bin .add Cx.toXB q_int (q_call Cx.lo (A 13 _ rfl) (T.glo 0 rfl 9 rfl) (T.def_ 13 rfl).kp (bd__law_draw T) (q_acons (q_x 0) (q_acons q_int q_anil)))) q_anil))) q_anil)))
 (q_scons (q_set 6 Cx.toXB (q_lst q_dnil))
 (q_scons (q_for Cx (q_iR1 (T.free 1 rfl 8 rfl) (q_bin .add Cx.toXB q_int (q_call Cx.lo (A 13 _ rfl) (T.glo 0 rfl 9 rfl) (T.def_ 13 rfl).kp (bd__law_draw T) (q_acons (q_x 0) (q_acons (q_ix Cx (getOk T A) (q_x 1) q_int) q_anil))))) (q_gn 7 Cx.toXB.nd)
 (q_scons (q_set 8 Cx.toXB (q_lst q_dnil))
 (q_scons (q_for Cx (q_iR2 (T.free 1 rfl 8 rfl) (q_x 2) (q_bin .add Cx.toXB (q_x 2) (q_x 3))) (q_gn 9 Cx.toXB.nd)
 (q_scons (q_par2 10 11 Cx (q_acons (q_primT .lst "list" Cx (hm := (T.free 1 rfl 3 rfl)) (hv := PyProof.Rows.boot_list) (ha := (q_acons (q_sl Cx.toXB (q_x 4) q_pn (q_ps (q_x 9))) q_anil))) (q_acons (q_lst q_dnil) q_anil)))
 (q_scons (q_for Cx (q_iR1 (T.free 1 rfl 8 rfl) (q_prim .min2 "min" Cx (hm := (T.free 1 rfl 9 rfl)) (hv := PyProof.Rows.boot_min) (ha := (q_acons (q_x 9) (q_acons (q_call Cx.lo (A 13 _ rfl) (T.glo 0 rfl 9 rfl) (T.def_ 13 rfl).kp (bd__law_draw T) (q_acons (q_x 0) (q_acons (q_bin .add Cx.toXB (q_ix Cx (getOk T A) (q_x 1) q_int) q_int) q_anil))) q_anil))))) (q_gn 12 Cx.toXB.nd)
 (q_scons (q_ex (q_bm .append Cx.toXB rfl PySem.F.slot_list_append PySem.F.type_list_append (q_x 11) (q_acons (q_bm .pop Cx.toXB rfl PySem.F.slot_list_pop PySem.F.type_list_pop (q_x 10) (q_acons (q_call Cx.lo (A 13 _ rfl) (T.glo 0 rfl 9 rfl) (T.def_ 13 rfl).kp (bd__law_draw T) (q_acons (q_x 0) (q_acons (q_len Cx (lenOk T A) (T.free 1 rfl 1 rfl) (q_acons (q_x 10) q_anil)) q_anil))) q_anil)) q_anil)))
 q_snil) (tgFx (by decide)) (fxHi rfl))
 (q_scons (q_if (PW.pt (q_andT (q_cmpT .ne Cx.toXB noEq (q_x 8) (q_lst q_dnil)) (q_and1T (q_cmpT .eq Cx.toXB noEq (q_call Cx.lo (A 13 _ rfl) (T.glo 0 rfl 9 rfl) (T.def_ 13 rfl).kp (bd__law_draw T) (q_acons (q_x 0) (q_acons q_int q_anil))) q_int))))
 (q_scons (q_set 11 Cx.toXB (q_bin .add Cx.toXB (q_lst (q_dcons (q_ix Cx (getOk T A) (q_x 4) (q_bin .sub Cx.toXB (q_x 9) q_int)) q_dnil)) (q_sl Cx.toXB (q_ix Cx (getOk T A) (q_ix Cx (getOk T A) (q_x 8) (q_neg q_int)) q_int) q_pn (q_ps q_int))))
 q_snil)
 q_snil)
 (q_scons (q_set 13 Cx.toXB (q_ix Cx (getOk T A) (q_lst (q_dcons q_str (q_dcons q_str (q_dcons q_str q_dnil)))) (q_call Cx.lo (A 13 _ rfl) (T.glo 0 rfl 9 rfl) (T.def_ 13 rfl).kp (bd__law_draw T) (q_acons (q_x 0) (q_acons q_int q_anil)))))
 (q_scons (q_ex (q_bm .append Cx.toXB rfl PySem.F.slot_list_append PySem.F.type_list_append (q_x 8) (q_acons (q_tup (q_dcons (q_ix Cx (getOk T A) (q_x 4) (q_x 9)) (q_dcons (q_ix Cx (getOk T A) (q_x 5) (q_call Cx.lo (A 13 _ rfl) (T.glo 0 rfl 9 rfl) (T.def_ 13 rfl).kp (bd__law_draw T) (q_acons (q_x 0) (q_acons (q_len Cx (lenOk T A) (T.free 1 rfl 1 rfl) (q_acons (q_x 5) q_anil)) q_anil)))) (q_dcons (q_x 11) (q_dcons (q_x 13) q_dnil))))) q_anil)))
 q_snil))))) (tgFx (by decide)) (fxHi rfl))
 (q_scons (q_if (PW.pt (q_andT (q_cmpT .ne Cx.toXB noEq (q_x 6) (q_lst q_dnil)) (q_andT (q_cmpT .gt Cx.toXB noEq (q_x 3) q_int) (q_and1T (q_cmpT .eq Cx.toXB noEq (q_call Cx.lo (A 13 _ rfl) (T.glo 0 rfl 9 rfl) (T.def_ 13 rfl).kp (bd__law_draw T) (q_acons (q_x 0) (q_acons q_int q_anil))) q_int)))))
 (q_scons (q_set 14 Cx.toXB (q_call Cx.lo (A 13 _ rfl) (T.glo 0 rfl 9 rfl) (T.def_ 13 rfl).kp (bd__law_draw T) (q_acons (q_x 0) (q_acons (q_x 3) q_anil))))
 (q_scons (q_set 8 Cx.toXB (q_bin .add Cx.toXB (q_bin .add Cx.toXB (q_sl Cx.toXB (q_ix Cx (getOk T A) (q_x 6) (q_neg q_int)) q_pn (q_ps (q_x 14))) (q_sl Cx.toXB (q_x 8) (q_ps (q_x 14)) (q_ps (q_bin .add Cx.toXB (q_x 14) q_int)))) (q_sl Cx.toXB (q_ix Cx (getOk T A) (q_x 6) (q_neg q_int)) (q_ps (q_bin .add Cx.toXB (q_x 14) q_int)) q_pn)))
 q_snil))
 q_snil)
 (q_scons (q_ex (q_bm .append Cx.toXB rfl PySem.F.slot_list_append PySem.F.type_list_append (q_x 6) (q_acons (q_x 8) q_anil)))
 q_snil)))) (tgFx (by decide)) (fxHi rfl))
 (q_scons (q_ret (q_tup (q_dcons (q_sl Cx.toXB (q_x 4) q_pn (q_ps (q_x 2))) (q_dcons (q_x 6) q_dnil))))
 q_snil))))))

set_option maxHeartbeats 8000000 in
theorem w__law_copied (T : Tp K mg) (A : AllG P w K mg base n) : FnG P w K mg base (2 * n + 2) (At.adr K (.g "_law_copied")) (fdOf K (At.adr K (.g "_law_copied"))) ["rules_here"] (spD (wd K) (callW Pg (n + 1) 54)) :=
  def_ok (N := ["rules_here", "found", "rules", "one"]) (T.def_ 16 rfl) rfl ⟨rfl, rfl, rfl, by decide +kernel, rfl, by decide +kernel, by decide +kernel⟩ rfl rfl (by decide) rfl fun cdv A0 out s H E Cx =>
 (q_scons (q_set 1 Cx.toXB (q_lst q_dnil))
 (q_scons (q_for Cx (q_iE Cx.toXB (q_x 0)) (q_gn 2 Cx.toXB.nd)
 (q_scons (q_ex (q_bm .append Cx.toXB rfl PySem.F.slot_list_append PySem.F.type_list_append (q_x 1) (q_acons (q_comp Cx (q_iE Cx.toXB (q_x 2)) (own' := [(Str.ofString "one", 3)]) (blkOk_by (by kernel_rfl)) (fun s H C cl fp Cx1 => (q_gn 3 Cx1.toXB.nd)) (fun s H C cl fp Cx1 => q_ptn) (fun s H C cl fp Cx1 => (q_tup (q_dcons (q_ix Cx1 (getOk T A) (q_x 3) q_int) (q_dcons (q_ix Cx1 (getOk T A) (q_x 3) q_int) (q_dcons (q_primT .lst "list" Cx1 (hm := (T.free 1 rfl 3 rfl)) (hv := PyProof.Rows.boot_list) (ha := (q_acons (q_ix Cx1 (getOk T A) (q_x 3) q_int) q_anil))) (q_dcons (q_ix Cx1 (getOk T A) (q_x 3) q_int) q_dnil)))))) (ho := tgOwn (by decide))) q_anil)))
 q_snil) (tgFx (by decide)) (fxHi rfl))
 (q_scons (q_ret (q_x 1))
 q_snil)))

set_option maxHeartbeats 8000000 in
theorem w__law_table_of (T : Tp K mg) (A : AllG P w K mg base n) : FnG P w K mg base (2 * n + 2) (At.adr K (.g "_law_table_of")) (fdOf K (At.adr K (.g "_law_table_of"))) ["plan"] (spD (wd K) (callW Pg (n + 1) 55)) :=
  def_ok (N := ["plan"]) (T.def_ 17 rfl) rfl ⟨rfl, rfl, rfl, by decide +kernel, rfl, by decide +kernel, by decide +kernel⟩ rfl rfl (by decide) rfl fun cdv A0 out s H E Cx =>
 (q_scons (q_ret (q_make Cx rfl rfl (mk_Table T) (A 5 _ rfl) (T.glo 0 rfl 11 rfl) (bd_Table___init__ T) (q_acons (q_primT .lst "list" Cx (hm := (T.free 1 rfl 3 rfl)) (hv := PyProof.Rows.boot_list) (ha := (q_acons (q_ix Cx (getOk T A) (q_x 0) q_int) q_anil))) (q_acons (q_call Cx.lo (A 16 _ rfl) (T.glo 0 rfl 12 rfl) (T.def_ 16 rfl).kp (bd__law_copied T) (q_acons (q_ix Cx (getOk T A) (q_x 0) q_int) q_anil)) q_anil))))
 q_snil)

set_option maxHeartbeats 8000000 in
theorem w__law_every_deed (T : Tp K mg) (A : AllG P w K mg base n) : FnG P w K mg base (2 * n + 2) (At.adr K (.g "_law_every_deed")) (fdOf K (At.adr K (.g "_law_every_deed"))) ["plan"] (spD (wd K) (callW Pg (n + 1) 56)) :=
  def_ok (N := ["plan", "found", "title", "one"]) (T.def_ 18 rfl) rfl ⟨rfl, rfl, rfl, by decide +kernel, rfl, by decide +kernel, by decide +kernel⟩ rfl rfl (by decide) rfl fun cdv A0 out s H E Cx =>
 (q_scons (q_set 1 Cx.toXB (q_bin .add Cx.toXB (q_lst (q_dcons (q_tup (q_dcons q_str q_dnil)) q_dnil)) (q_comp Cx (q_iE Cx.toXB (q_ix Cx (getOk T A) (q_x 0) q_int)) (own' := [(Str.ofString "title", 2)]) (blkOk_by (by kernel_rfl)) (fun s H C cl fp Cx1 => (q_gn 2 Cx1.toXB.nd)) (fun s H C cl fp Cx1 => q_ptn) (fun s H C cl fp Cx1 => (q_tup (q_dcons q_str (q_dcons (q_x 2) q_dnil)))) (ho := tgOwn (by decide)))))
 (q_scons (q_ret (q_bin .add Cx.toXB (q_bin .add Cx.toXB (q_x 1) (q_comp Cx (q_iE Cx.toXB (q_ix Cx (getOk T A) (q_ix Cx (getOk T A) (q_x 0) q_int) q_int)) (own' := [(Str.ofString "one", 3)]) (blkOk_by (by kernel_rfl)) (fun s H C cl fp Cx1 => (q_gn 3 Cx1.toXB.nd)) (fun s H C cl fp Cx1 => q_ptn) (fun s H C cl fp Cx1 => (q_tup (q_dcons q_str (q_dcons (q_ix Cx1 (getOk T A) (q_x 3) q_int) q_dnil)))) (ho := tgOwn (by decide)))) (q_lst (q_dcons (q_tup (q_dcons q_str q_dnil)) q_dnil))))
 q_snil))

set_option maxHeartbeats 8000000 in
theorem w__law_asked (T : Tp K mg) (A : AllG P w K mg base n) : FnG P w K mg base (2 * n + 2) (At.adr K (.g "_law_asked")) (fdOf K (At.adr K (.g "_law_asked"))) ["made", "titles"] (spD (wd K) (callW Pg (n + 1) 57)) :=
  def_ok (N := ["made", "titles", "title"]) (T.def_ 19 rfl) rfl ⟨rfl, rfl, rfl, by decide +kernel, rfl, by decide +kernel, by decide +kernel⟩ rfl rfl (by decide) rfl fun cdv A0 out s H E Cx =>
 (q_scons (q_ret (q_lst (q_dcons (q_fld Cx (fk_213 T A) (q_x 0)) (q_dcons (q_fld Cx (fk_203 T A) (q_x 0)) (q_dcons (q_fld Cx (fk_201 T A) (q_x 0)) (q_dcons (q_len Cx (lenOk T A) (T.free 1 rfl 1 rfl) (q_acons (q_x 0) q_anil)) (q_dcons (q_um0 (m := 29) Cx.lo (um_deeds T A) (q_x 0)) (q_dcons (q_comp Cx (q_iE Cx.toXB (q_x 1)) (own' := [(Str.ofString "title", 2)]) (blkOk_by (by kernel_rfl)) (fun s H C cl fp Cx1 => (q_gn 2 Cx1.toXB.nd)) (fun s H C cl fp Cx1 => q_ptn) (fun s H C cl fp Cx1 => (q_ix Cx1 (getOk T A) (q_x 0) (q_x 2))) (ho := tgOwn (by decide))) q_dnil))))))))
 q_snil)

set_option maxHeartbeats 8000000 in
theorem w__law_items_spoilt (T : Tp K mg) (A : AllG P w K mg base n) : FnG P w K mg base (2 * n + 2) (At.adr K (.g "_law_items_spoilt")) (fdOf K (At.adr K (.g "_law_items_spoilt"))) ["told"] (spD (wd K) (callW Pg (n + 1) 58)) :=
  def_ok (N := ["told", "rules", "one"]) (T.def_ 20 rfl) rfl ⟨rfl, rfl, rfl, by decide +kernel, rfl, by decide +kernel, by decide +kernel⟩ rfl rfl (by decide) rfl fun cdv A0 out s H E Cx =>
 (q_scons (q_for Cx (q_iE Cx.toXB (q_ix Cx (getOk T A) (q_x 0) q_int)) (q_gn 1 Cx.toXB.nd)
 (q_scons (q_for Cx (q_iE Cx.toXB (q_x 1)) (q_gn 2 Cx.toXB.nd)
 (q_scons (q_wipe (q_ex (q_bm .append Cx.toXB rfl PySem.F.slot_list_append PySem.F.type_list_append (q_ix Cx (getOk T A) (q_x 2) q_int) (q_acons q_str q_anil))))
 q_snil) (tgFx (by decide)) (fxHi rfl))
 (q_scons (q_wipe (q_ex (q_bm .append Cx.toXB rfl PySem.F.slot_list_append PySem.F.type_list_append (q_x 1) (q_acons q_str q_anil))))
 q_snil)) (tgFx (by decide)) (fxHi rfl))
 (q_scons (q_for Cx (q_iE Cx.toXB (q_ix Cx (getOk T A) (q_x 0) q_int)) (q_gn 1 Cx.toXB.nd)
 (q_scons (q_for Cx (q_iE Cx.toXB (q_x 1)) (q_gn 2 Cx.toXB.nd)
 (q_scons (q_wipe (q_ex (q_bm .insert Cx.toXB rfl PySem.F.slot_list_insert PySem.F.type_list_insert (q_ix Cx (getOk T A) (q_x 2) q_int) (q_acons q_int (q_acons q_str q_anil)))))
 q_snil) (tgFx (by decide)) (fxHi rfl))
 (q_scons (q_wipe (q_ex (q_bm0 .pop Cx.toXB rfl PySem.F.slot_list_pop PySem.F.type_list_pop (q_x 1))))
 q_snil)) (tgFx (by decide)) (fxHi rfl))
 (q_scons (q_ex (q_bm .append Cx.toXB rfl PySem.F.slot_list_append PySem.F.type_list_append (q_ix Cx (getOk T A) (q_x 0) q_int) (q_acons q_str q_anil)))
 (q_scons (q_ex (q_bm0 .pop Cx.toXB rfl PySem.F.slot_list_pop PySem.F.type_list_pop (q_ix Cx (getOk T A) (q_x 0) q_int)))
 (q_scons (q_ex (q_bm .insert Cx.toXB rfl PySem.F.slot_list_insert PySem.F.type_list_insert (q_ix Cx (getOk T A) (q_x 0) q_int) (q_acons q_int (q_acons q_str q_anil))))
 (q_scons (q_ex (q_bm0 .clear Cx.toXB rfl PySem.F.slot_list_clear PySem.F.type_list_clear (q_ix Cx (getOk T A) (q_x 0) q_int)))
 q_snil))))))

set_option maxHeartbeats 8000000 in
theorem w__law_refused (T : Tp K mg) (A : AllG P w K mg base n) : FnG P w K mg base (2 * n + 2) (At.adr K (.g "_law_refused")) (fdOf K (At.adr K (.g "_law_refused"))) ["made", "wording"] (spD (wd K) (callW Pg (n + 1) 59)) :=
  def_ok (N := ["made", "wording", "found", "e"]) (T.def_ 21 rfl) rfl ⟨rfl, rfl, rfl, by decide +kernel, rfl, by decide +kernel, by decide +kernel⟩ rfl rfl (by decide) rfl fun cdv A0 out s H E Cx =>
 (q_scons (q_wipe (q_set 2 Cx.toXB q_non))
 (q_scons (q_tryAs 3 Cx ⟨rfl, by decide, Or.inl (low_UnknownColumn T).gC⟩ (xm_UnknownColumn T) (fun W' pn xe Cy => (q_scons (q_set 2 Cy.toXB (q_lst (q_dcons (q_ix Cy (getOk T A) (q_x 0) (q_x 1)) q_dnil)))
 q_snil)) (fun a oe pn c C dd hC hz hf By => (q_scons (q_set 2 By (q_exv (lows T) (insNo T) noVal rfl hC hz hf (q_x 3)))
 q_snil)))
 (q_scons (q_ret (q_x 2))
 q_snil)))

set_option maxHeartbeats 8000000 in
theorem w__law_table_right (T : Tp K mg) (A : AllG P w K mg base n) : FnG P w K mg base (2 * n + 2) (At.adr K (.g "_law_table_right")) (fdOf K (At.adr K (.g "_law_table_right"))) ["plan", "made", "strange"] (spD (wd K) (callW Pg (n + 1) 60)) :=
  def_ok (N := ["plan", "made", "strange", "titles", "items_here", "title", "rank", "due", "turn", "told", "wording", "one", "rules"]) (T.def_ 22 rfl) rfl ⟨rfl, rfl, rfl, by decide +kernel, rfl, by decide +kernel, by decide +kernel⟩ rfl rfl (by decide) rfl fun cdv A0 out s H E Cx =>
 (q_scons (q_setLc 3 Cx (q_iE Cx.toXB (q_ix Cx (getOk T A) (q_ix Cx (getOk T A) (q_x 0) q_int) q_int)) (own' := [(Str.ofString "one", 11)]) (blkOk_by (by kernel_rfl)) (fun s H C cl fp Cx1 => (q_gn 11 Cx1.toXB.nd)) (fun s H C cl fp Cx1 => q_ptn) (fun s H C cl fp Cx1 => (q_ix Cx1 (getOk T A) (q_x 11) q_int)) (ho := tgOwn (by decide)) (hsw := sw_true rfl rfl rfl (by decide +kernel)))
 (q_scons (q_set 4 Cx.toXB (q_lst q_dnil))
 (q_scons (q_for Cx (q_iE Cx.toXB (q_x 3)) (q_gn 5 Cx.toXB.nd)
 (q_scons (q_wipe (q_set 6 Cx.toXB (q_rd .index Cx.toXB rfl PySem.F.plainAttrs_list PySem.F.slot_list_index PySem.F.type_list_index (q_x 3) (q_acons (q_x 5) q_anil))))
 (q_scons (q_wipe (q_ex (q_bm .append Cx.toXB rfl PySem.F.slot_list_append PySem.F.type_list_append (q_x 4) (q_acons (q_comp Cx (q_iE Cx.toXB (q_ix Cx (getOk T A) (q_x 0) q_int)) (own' := [(Str.ofString "rules", 12)]) (blkOk_by (by kernel_rfl)) (fun s H C cl fp Cx1 => (q_gn 12 Cx1.toXB.nd)) (fun s H C cl fp Cx1 => q_ptn) (fun s H C cl fp Cx1 => (q_tup (q_dcons (q_ix Cx1 (getOk T A) (q_ix Cx1 (getOk T A) (q_x 12) (q_x 6)) q_int) (q_dcons (q_ix Cx1 (getOk T A) (q_ix Cx1 (getOk T A) (q_x 12) (q_x 6)) q_int) (q_dcons (q_ix Cx1 (getOk T A) (q_ix Cx1 (getOk T A) (q_x 12) (q_x 6)) q_int) q_dnil))))) (ho := tgOwn (by decide))) q_anil))))
 q_snil)) (tgFx (by decide)) (fxHi rfl))
 (q_scons (q_wipe (q_set 7 Cx.toXB (q_lst (q_dcons (q_ix Cx (getOk T A) (q_x 0) q_int) (q_dcons (q_ix Cx (getOk T A) (q_x 0) q_int) (q_dcons (q_x 3) (q_dcons (q_len Cx (lenOk T A) (T.free 1 rfl 1 rfl) (q_acons (q_ix Cx (getOk T A) (q_x 0) q_int) q_anil)) (q_dcons (q_call Cx.lo (A 18 _ rfl) (T.glo 0 rfl 16 rfl) (T.def_ 18 rfl).kp (bd__law_every_deed T) (q_acons (q_x 0) q_anil)) (q_dcons (q_x 4) q_dnil)))))))))
 (q_scons (q_wipe (q_for Cx (q_iR1 (T.free 1 rfl 8 rfl) q_int) (q_gn 8 Cx.toXB.nd)
 (q_scons (q_wipe (q_set 9 Cx.toXB (q_call Cx.lo (A 19 _ rfl) (T.glo 0 rfl 15 rfl) (T.def_ 19 rfl).kp (bd__law_asked T) (q_acons (q_x 1) (q_acons (q_x 3) q_anil)))))
 (q_scons (q_if (q_cmpT .ne Cx.toXB noEq (q_prim .repr "repr" Cx (hm := (T.free 1 rfl 10 rfl)) (hv := PyProof.Rows.boot_repr) (ha := (q_acons (q_x 9) q_anil))) (q_prim .repr "repr" Cx (hm := (T.free 1 rfl 10 rfl)) (hv := PyProof.Rows.boot_repr) (ha := (q_acons (q_x 7) q_anil))))
 (q_scons (q_ret q_bl)
 q_snil)
 q_snil)
 (q_scons (q_for Cx (q_iE Cx.toXB (q_x 2)) (q_gn 10 Cx.toXB.nd)
 (q_scons (q_wipe (q_if (PW.pt (q_andT (q_cmpT .notin Cx.toXB noEq (q_x 10) (q_x 3)) (q_and1T (q_cmpT .ne Cx.toXB noEq (q_prim .repr "repr" Cx (hm := (T.free 1 rfl 10 rfl)) (hv := PyProof.Rows.boot_repr) (ha := (q_acons (q_call Cx.lo (A 21 _ rfl) (T.glo 0 rfl 14 rfl) (T.def_ 21 rfl).kp (bd__law_refused T) (q_acons (q_x 1) (q_acons (q_x 10) q_anil))) q_anil))) (q_prim .repr "repr" Cx (hm := (T.free 1 rfl 10 rfl)) (hv := PyProof.Rows.boot_repr) (ha := (q_acons (q_x 10) q_anil)))))))
 (q_scons (q_ret q_bl)
 q_snil)
 q_snil))
 q_snil) (tgFx (by decide)) (fxHi rfl))
 (q_scons (q_wipe (q_ex (q_call Cx.lo (A 20 _ rfl) (T.glo 0 rfl 13 rfl) (T.def_ 20 rfl).kp (bd__law_items_spoilt T) (q_acons (q_x 9) q_anil))))
 q_snil)))) (tgFx (by decide)) (fxHi rfl)))
 (q_scons (q_ret q_bl)
 q_snil))))))

set_option maxHeartbeats 8000000 in
theorem w_law_v1 (T : Tp K mg) (A : AllG P w K mg base n) : FnG P w K mg base (2 * n + 2) (At.adr K (.g "law")) (fdOf K (At.adr K (.g "law"))) ["script"] (spD (wd K) (callW Pg (n + 1) 61)) :=
  def_ok (N := ["script", "spot", "sack", "plan", "strange", "named", "one"]) (T.def_ 23 rfl) rfl ⟨rfl, rfl, rfl, by decide +kernel, rfl, by decide +kernel, by decide +kernel⟩ rfl rfl (by decide) rfl fun cdv A0 out s H E Cx =>
 (q_scons (q_for Cx (q_iR1 (T.free 1 rfl 8 rfl) (q_prim .max2 "max" Cx (hm := (T.free 1 rfl 6 rfl)) (hv := PyProof.Rows.boot_max) (ha := (q_acons q_int (q_acons (q_prim .min2 "min" Cx (hm := (T.free 1 rfl 9 rfl)) (hv := PyProof.Rows.boot_min) (ha := (q_acons q_int (q_acons (q_len Cx (lenOk T A) (T.free 1 rfl 1 rfl) (q_acons (q_x 0) q_anil)) q_anil)))) q_anil))))) (q_gn 1 Cx.toXB.nd)
 (q_scons (q_wipe (q_set 2 Cx.toXB (q_call Cx.lo (A 12 _ rfl) (T.glo 0 rfl 20 rfl) (T.def_ 12 rfl).kp (bd__law_source T) (q_acons (q_x 0) (q_acons (q_x 1) q_anil)))))
 (q_scons (q_wipe (q_set 3 Cx.toXB (q_call Cx.lo (A 15 _ rfl) (T.glo 0 rfl 19 rfl) (T.def_ 15 rfl).kp (bd__law_any_plan T) (q_acons (q_x 2) (q_acons (q_ix Cx (getOk T A) (q_lst (q_dcons (q_tup (q_dcons q_int (q_dcons q_int (q_dcons q_int (q_dcons q_int q_dnil))))) (q_dcons (q_tup (q_dcons q_int (q_dcons q_int (q_dcons q_int (q_dcons q_int q_dnil))))) q_dnil))) (q_call Cx.lo (A 13 _ rfl) (T.glo 0 rfl 9 rfl) (T.def_ 13 rfl).kp (bd__law_draw T) (q_acons (q_x 2) (q_acons q_int q_anil)))) q_anil)))))
 (q_scons (q_set 4 Cx.toXB (q_bin .add Cx.toXB (q_bin .add Cx.toXB (q_lst (q_dcons q_str (q_dcons q_str (q_dcons q_str q_dnil)))) (q_ix Cx (getOk T A) (q_x 3) q_int)) (q_comp Cx (q_iE Cx.toXB (q_ix Cx (getOk T A) (q_ix Cx (getOk T A) (q_x 3) q_int) q_int)) (own' := [(Str.ofString "one", 6)]) (blkOk_by (by kernel_rfl)) (fun s H C cl fp Cx1 => (q_gn 6 Cx1.toXB.nd)) (fun s H C cl fp Cx1 => q_ptn) (fun s H C cl fp Cx1 => (q_ix Cx1 (getOk T A) (q_x 6) q_int)) (ho := tgOwn (by decide)))))
 (q_scons (q_set 4 Cx.toXB (q_bin .add Cx.toXB (q_bin .add Cx.toXB (q_x 4) (q_comp Cx (q_iE Cx.toXB (q_ix Cx (getOk T A) (q_ix Cx (getOk T A) (q_x 3) q_int) q_int)) (own' := [(Str.ofString "one", 6)]) (blkOk_by (by kernel_rfl)) (fun s H C cl fp Cx1 => (q_gn 6 Cx1.toXB.nd)) (fun s H C cl fp Cx1 => q_ptn) (fun s H C cl fp Cx1 => (q_sl Cx1.toXB (q_ix Cx1 (getOk T A) (q_x 6) q_int) q_pn (q_ps (q_neg q_int)))) (ho := tgOwn (by decide)))) (q_comp Cx (q_iE Cx.toXB (q_ix Cx (getOk T A) (q_ix Cx (getOk T A) (q_x 3) q_int) q_int)) (own' := [(Str.ofString "one", 6)]) (blkOk_by (by kernel_rfl)) (fun s H C cl fp Cx1 => (q_gn 6 Cx1.toXB.nd)) (fun s H C cl fp Cx1 => q_ptn) (fun s H C cl fp Cx1 => (q_bin .add Cx1.toXB (q_ix Cx1 (getOk T A) (q_x 6) q_int) q_str)) (ho := tgOwn (by decide)))))
 (q_scons (q_set 4 Cx.toXB (q_bin .add Cx.toXB (q_bin .add Cx.toXB (q_x 4) (q_comp Cx (q_iE Cx.toXB (q_sl Cx.toXB (q_ix Cx (getOk T A) (q_ix Cx (getOk T A) (q_x 3) q_int) q_int) q_pn (q_ps q_int))) (own' := [(Str.ofString "one", 6)]) (blkOk_by (by kernel_rfl)) (fun s H C cl fp Cx1 => (q_gn 6 Cx1.toXB.nd)) (fun s H C cl fp Cx1 => q_ptn) (fun s H C cl fp Cx1 => (q_bin .add Cx1.toXB (q_ix Cx1 (getOk T A) (q_x 6) q_int) q_str)) (ho := tgOwn (by decide)))) (q_comp Cx (q_iE Cx.toXB (q_sl Cx.toXB (q_ix Cx (getOk T A) (q_ix Cx (getOk T A) (q_x 3) q_int) q_int) q_pn (q_ps q_int))) (own' := [(Str.ofString "one", 6)]) (blkOk_by (by kernel_rfl)) (fun s H C cl fp Cx1 => (q_gn 6 Cx1.toXB.nd)) (fun s H C cl fp Cx1 => q_ptn) (fun s H C cl fp Cx1 => (q_rd0 .upper Cx1.toXB rfl PySem.F.plainAttrs_str PySem.F.slot_str_upper PySem.F.type_str_upper (q_ix Cx1 (getOk T A) (q_x 6) q_int))) (ho := tgOwn (by decide)))))
 (q_scons (q_if (q_ntT (q_test Cx.toXB (q_call Cx.lo (A 22 _ rfl) (T.glo 0 rfl 17 rfl) (T.def_ 22 rfl).kp (bd__law_table_right T) (q_acons (q_x 3) (q_acons (q_call Cx.lo (A 17 _ rfl) (T.glo 0 rfl 18 rfl) (T.def_ 17 rfl).kp (bd__law_table_of T) (q_acons (q_x 3) q_anil)) (q_acons (q_x 4) q_anil))))))
 (q_scons (q_ret q_bl)
 q_snil)
 q_snil)
 (q_scons (q_set 5 Cx.toXB (q_makeK (ks := ["editions", "plain"]) (perm := [1, 0]) Cx rfl rfl (mk_Table T) (A 5 _ rfl) (T.glo 0 rfl 11 rfl) (bk_Table_10 T) (q_k1 (q_call Cx.lo (A 16 _ rfl) (T.glo 0 rfl 12 rfl) (T.def_ 16 rfl).kp (bd__law_copied T) (q_acons (q_ix Cx (getOk T A) (q_x 3) q_int) q_anil)) (q_k1 (q_primT .lst "list" Cx (hm := (T.free 1 rfl 3 rfl)) (hv := PyProof.Rows.boot_list) (ha := (q_acons (q_ix Cx (getOk T A) (q_x 3) q_int) q_anil))) q_k0))))
 (q_scons (q_wipe (q_if (q_ntT (q_test Cx.toXB (q_call Cx.lo (A 22 _ rfl) (T.glo 0 rfl 17 rfl) (T.def_ 22 rfl).kp (bd__law_table_right T) (q_acons (q_x 3) (q_acons (q_x 5) (q_acons (q_sl Cx.toXB (q_x 4) q_pn (q_ps q_int)) q_anil))))))
 (q_scons (q_ret q_bl)
 q_snil)
 q_snil))
 q_snil)))))))) (tgFx (by decide)) (fxHi rfl))
 (q_scons (q_ret q_bl)
 q_snil))

theorem all_zero : AllG P w K mg base 0 := fun i q h => fn_zero
theorem all_succ (T : Tp K mg) (A : AllG P w K mg base n) : AllG P w K mg base (n + 1) := fun i q h => by
  match i, h with
  | 0, h => cases h; exact fn_none rfl
  | 1, h => cases h; exact w_is_name T A
  | 2, h => cases h; exact w_check_names T A
  | 3, h => cases h; exact w_check_sources T A
  | 4, h => cases h; exact w_check_edition T A
  | 5, h => cases h; exact w_Table___init__ T A
  | 6, h => cases h; exact w_Table_plain T A
  | 7, h => cases h; exact w_Table_editions T A
  | 8, h => cases h; exact w_Table_columns T A
  | 9, h => cases h; exact w_Table___getitem__ T A
  | 10, h => cases h; exact w_Table___len__ T A
  | 11, h => cases h; exact w_Table_deeds T A
  | 12, h => cases h; exact w__law_source T A
  | 13, h => cases h; exact w__law_draw T A
  | 14, h => cases h; exact w__law_some_titles T A
  | 15, h => cases h; exact w__law_any_plan T A
  | 16, h => cases h; exact w__law_copied T A
  | 17, h => cases h; exact w__law_table_of T A
  | 18, h => cases h; exact w__law_every_deed T A
  | 19, h => cases h; exact w__law_asked T A
  | 20, h => cases h; exact w__law_items_spoilt T A
  | 21, h => cases h; exact w__law_refused T A
  | 22, h => cases h; exact w__law_table_right T A
  | 23, h => cases h; exact w_law_v1 T A
  | i + 24, h => exact absurd h (by simp [drs])
theorem all_ok (T : Tp K mg) : ∀ n, AllG P w K mg base n
  | 0 => all_zero
  | n + 1 => all_succ T (all_ok T n)
end
end K02
end QL
end
section
set_option linter.all false
set_option maxRecDepth 100000
set_option maxHeartbeats 4000000
/-! PA0: walks and comprehensions by invariants; lists of texts. -/
namespace QL
open PySem PySem.Spec PyProof.Rows L2

theorem call_of {Pg : Prg} {n i : Nat} {fn : Fn} {ms : List M} {K : CK} {X : CX} (h : Pg.fn i = some fn) (g : runW (gam Pg n) fn ms K X) : callW Pg (n + 1) i ms K X := by
  rw [callW_succ h]
  exact g
theorem forD_ind {t : Tg} {body : QL.Env → Post → Prop} {D : Post} (l : List BV) (S : Nat → QL.Env → Prop) {σ : QL.Env} (h0 : S 0 σ)
    (hs : ∀ i b σ (N : QL.Env → Prop), l[i]? = some b → S i σ → (∀ σ2, S (i + 1) σ2 → N σ2) → bindBW t b σ fun σ1 => body σ1 (D.loop N)) (he : ∀ σ, S l.length σ → D.nx σ) : forD t body l σ D := by
  have key : ∀ (r p : List BV), l = p ++ r → ∀ σ, S p.length σ → forD t body r σ D := fun r => by
    induction r with
    | nil =>
      intro p e σ h
      rw [List.append_nil] at e
      subst e
      exact he σ h
    | cons b r ih =>
      intro p e σ h
      refine hs p.length b σ _ (by rw [e, List.getElem?_append_right (Nat.le_refl _)]; simp) h fun σ2 h2 => ?_
      exact ih (p ++ [b]) (by rw [e]; simp) σ2 (by rw [List.length_append]; exact h2)
  exact key l [] rfl σ h0
theorem forO_ind {t : Tg} {body : QL.Env → Post → Prop} {D : Post} {n : Nat} {tp en : Bool} (S : Nat → QL.Env → Prop) {σ : QL.Env} (h0 : S 0 σ)
    (hs : ∀ i σ (N : QL.Env → Prop), i < n → S i σ → (∀ σ2, S (i + 1) σ2 → N σ2) → itemW n tp en i σ fun b => bindBW t b σ fun σ1 => body σ1 (D.loop N)) (he : ∀ σ, S n σ → endW n tp σ (D.nx σ)) : forO t body n tp en n σ D := by
  have key : ∀ k σ, k ≤ n → S (n - k) σ → forO t body n tp en k σ D := fun k => by
    induction k with
    | zero => intro σ _ h; exact he σ h
    | succ k ih =>
      intro σ hk h
      refine hs (n - (k + 1)) σ _ (by omega) h fun σ2 h2 => ?_
      exact ih σ2 (by omega) (by rw [show n - k = n - (k + 1) + 1 by omega]; exact h2)
  exact key n σ (Nat.le_refl n) (by rw [Nat.sub_self]; exact h0)
theorem compD_ind {own : List Nat} {t : Tg} {f : QL.Env → FK → Prop} {K : FK} (l : List BV) (S : Nat → List M → QL.Env → Prop) {σ : QL.Env} (h0 : S 0 [] σ)
    (hs : ∀ i b acc σ (N : FK), l[i]? = some b → S i acc σ → (∀ ms σ2, S (i + 1) (acc ++ ms) σ2 → N ms σ2) → wipeW own σ fun σ0 => bindBW t b σ0 fun σ1 => f σ1 N) (he : ∀ acc σ, S l.length acc σ → K acc σ) : compD own t f l σ K := by
  have key : ∀ (r p : List BV), l = p ++ r → ∀ acc σ, S p.length acc σ → compD own t f r σ fun ms σ2 => K (acc ++ ms) σ2 := fun r => by
    induction r with
    | nil =>
      intro p e acc σ h
      rw [List.append_nil] at e
      subst e
      show K (acc ++ []) σ
      rw [List.append_nil]
      exact he acc σ h
    | cons b r ih =>
      intro p e acc σ h
      refine hs p.length b acc σ _ (by rw [e, List.getElem?_append_right (Nat.le_refl _)]; simp) h fun ms σ2 h2 => ?_
      have := ih (p ++ [b]) (by rw [e]; simp) (acc ++ ms) σ2 (by rw [List.length_append]; exact h2)
      simp only [List.append_assoc] at this
      exact this
  exact key l [] rfl [] σ h0
theorem compO_ind {own : List Nat} {t : Tg} {f : QL.Env → FK → Prop} {K : FK} {n : Nat} {tp en : Bool} (S : Nat → List M → QL.Env → Prop) {σ : QL.Env} (h0 : S 0 [] σ)
    (hs : ∀ i acc σ (N : FK), i < n → S i acc σ → (∀ ms σ2, S (i + 1) (acc ++ ms) σ2 → N ms σ2) → wipeW own σ fun σ0 => itemW n tp en i σ0 fun b => bindBW t b σ0 fun σ1 => f σ1 N) (he : ∀ acc σ, S n acc σ → endW n tp σ (K acc σ)) : compO own t f n tp en n σ K := by
  have key : ∀ k acc σ, k ≤ n → S (n - k) acc σ → compO own t f n tp en k σ fun ms σ2 => K (acc ++ ms) σ2 := fun k => by
    induction k with
    | zero =>
      intro acc σ _ h
      show endW n tp σ (K (acc ++ []) σ)
      rw [List.append_nil]
      exact he acc σ h
    | succ k ih =>
      intro acc σ hk h
      refine hs (n - (k + 1)) acc σ _ (by omega) h fun ms σ2 h2 => ?_
      have := ih (acc ++ ms) σ2 (by omega) (by rw [show n - k = n - (k + 1) + 1 by omega]; exact h2)
      simp only [List.append_assoc] at this
      exact this
  exact key n [] σ (Nat.le_refl n) (by rw [Nat.sub_self]; exact h0)
theorem compW_dat {own : List Nat} {t : Tg} {f : QL.Env → FK → Prop} {K : FK} {l : List BV} {σ : QL.Env} (S : Nat → List M → QL.Env → Prop) (h0 : S 0 [] σ)
    (hs : ∀ i b acc σ (N : FK), l[i]? = some b → S i acc σ → (∀ ms σ2, S (i + 1) (acc ++ ms) σ2 → N ms σ2) → wipeW own σ fun σ0 => bindBW t b σ0 fun σ1 => f σ1 N)
    (he : ∀ acc σ', S l.length acc σ' → ∃ σo, (∀ K' : QL.Env → Prop, K' σo → restoreW σ own σ' K') ∧ K acc σo) : compW own t (.dat l) f σ K := by
  refine compD_ind l S h0 hs fun acc σ' h => ?_
  obtain ⟨σo, h1, h2⟩ := he acc σ' h
  exact h1 _ h2
abbrev OneV (y : Option SV) : Prop := y = none ∨ ∃ m, y = some (.v m)
theorem erase_map {α β : Type} (f : α → β) : ∀ (l : List α) (j : Nat), (l.map f).eraseIdx j = (l.eraseIdx j).map f
  | [], _ => rfl
  | _ :: _, 0 => rfl
  | a :: r, j + 1 => by
    show f a :: (r.map f).eraseIdx j = f a :: (r.eraseIdx j).map f
    rw [erase_map f r j]
theorem erase_perm {α : Type} : ∀ {l : List α} {j : Nat} (h : j < l.length), (l[j] :: l.eraseIdx j).Perm l
  | a :: r, 0, _ => .refl _
  | a :: r, j + 1, h => by
    have := erase_perm (l := r) (j := j) (by simpa using h)
    exact (List.Perm.swap _ _ _).trans (this.cons a)
theorem rangeD_get : ∀ {n i : Nat} {lo : Int} {b : BV}, (rangeD lo n)[i]? = some b → b = oneD (.int (lo + i)) ∧ i < n
  | 0, i, lo, b, h => by simp [rangeD] at h
  | n + 1, 0, lo, b, h => by
    simp [rangeD] at h
    subst h
    simp
  | n + 1, i + 1, lo, b, h => by
    have h2 : (rangeD (lo + 1) n)[i]? = some b := by simpa [rangeD] using h
    obtain ⟨e, l⟩ := rangeD_get h2
    refine ⟨?_, by omega⟩
    rw [e]
    congr 2
    push_cast
    omega
/-- bits -/
theorem lg {i : Int} {k : Nat} (h : i.natAbs < 2 ^ k) (hk : 0 < k) : i.natAbs.log2 < k := by
  by_cases z : i.natAbs = 0
  · rw [z]
    simpa using hk
  · exact (Nat.log2_lt z).mpr h
theorem lgI {i : Int} {k : Nat} (h1 : -(2 : Int) ^ k < i) (h2 : i < (2 : Int) ^ k) (hk : 0 < k) : i.natAbs.log2 < k := by
  refine lg ?_ hk
  have : ((2 ^ k : Nat) : Int) = (2 : Int) ^ k := by push_cast; rfl
  omega
/-! #### texts -/
def sl (l : List Str) : List D := l.map .str
theorem any_str (l : List Str) (x : Str) : ((l.map PyData.str).any fun z => PyData.eqv z (.str x)) = decide (x ∈ l) := by
  induction l with
  | nil => simp
  | cons a r ih =>
    rw [List.map_cons, List.any_cons, ih]
    have : PyData.eqv (.str a) (.str x) = (a == x) := rfl
    rw [this]
    by_cases h : a = x
    · subst h; simp
    · have h2 : x ≠ a := fun e => h e.symm
      simp [h, h2]
theorem dep_str (l : List Str) : depAll (l.map PyData.str) = 0 := by
  induction l with
  | nil => rfl
  | cons a r ih => simp [depAll, dep, ih]
theorem ok_strs (l : List Str) : okD (.list (l.map .str)) = true := by
  unfold okD
  rw [show dep (.list (l.map .str)) = depAll (l.map .str) + 1 from rfl, dep_str]
  rfl
theorem ok_strsT (l : List Str) : okD (.tuple (l.map .str)) = true := by
  unfold okD
  rw [show dep (.tuple (l.map .str)) = depAll (l.map .str) + 1 from rfl, dep_str]
  rfl
theorem dats_dat : ∀ l : List D, dats (l.map .dat) = some l
  | [] => rfl
  | d :: r => by rw [List.map_cons]; unfold dats; rw [dats_dat r]; rfl
theorem mkL_dat (l : List D) : mkL (l.map .dat) = .sl l := by unfold mkL; rw [dats_dat]
theorem mkT_dat (l : List D) : mkT (l.map .dat) = .dat (.tuple l) := by unfold mkT; rw [dats_dat]
/-- what a comprehension hands on, told as a list of data -/
theorem compW_sl {own : List Nat} {t : Tg} {f : QL.Env → FK → Prop} {G : SV → QL.Env → Prop} {l : List BV} {σ : QL.Env} (S : Nat → List D → QL.Env → Prop) (h0 : S 0 [] σ)
    (hs : ∀ i b acc σ (N : FK), l[i]? = some b → S i acc σ → (∀ ms σ2, S (i + 1) (acc ++ ms) σ2 → N (ms.map .dat) σ2) → wipeW own σ fun σ0 => bindBW t b σ0 fun σ1 => f σ1 N)
    (he : ∀ acc σ', S l.length acc σ' → ∃ σo, (∀ K' : QL.Env → Prop, K' σo → restoreW σ own σ' K') ∧ G (.v (.sl acc)) σo) : compW own t (.dat l) f σ fun ms σ2 => G (.v (mkL ms)) σ2 := by
  refine compW_dat (fun i ms σ => ∃ acc, ms = acc.map .dat ∧ S i acc σ) ⟨[], rfl, h0⟩ (fun i b ms σ N hb ⟨acc, e, h⟩ hN => ?_) fun ms σ' ⟨acc, e, h⟩ => ?_
  · exact hs i b acc σ N hb h fun ms2 σ2 h2 => hN _ _ ⟨acc ++ ms2, by rw [e, List.map_append], h2⟩
  · obtain ⟨σo, h1, h2⟩ := he acc σ' h
    refine ⟨σo, h1, ?_⟩
    show G (.v (mkL ms)) σo
    rw [e, mkL_dat]
    exact h2
theorem strsOf_map : ∀ l : List Str, strsOf (l.map .str) = some l
  | [] => rfl
  | x :: r => by rw [List.map_cons]; unfold strsOf; rw [strsOf_map r]; rfl
theorem atI_nat {α : Type} {l : List α} {i : Nat} {x : α} (h : l[i]? = some x) : atI l (i : Int) = some x := by
  have hi : i < l.length := (List.getElem?_eq_some_iff.mp h).1
  unfold atI ixN
  rw [if_pos (by omega), if_pos (by omega)]
  simpa using h
theorem ixN_nat {n i : Nat} (h : i < n) : ixN n (i : Int) = some i := by
  unfold ixN
  rw [if_pos (by omega), if_pos (by omega)]
  simp
theorem cut_take {α : Type} (l : List α) (k : Nat) : cut l none (some (k : Int)) = l.take k := by
  unfold cut
  rw [HT.sIx_none, HT.sIx_nat]
  simp
theorem cut_drop {α : Type} (l : List α) (k : Nat) : cut l (some (k : Int)) none = l.drop k := by
  unfold cut
  rw [HT.sIx_none, HT.sIx_nat]
  by_cases h : k ≤ l.length
  · rw [Nat.min_eq_left h, List.take_of_length_le (by simp)]
  · rw [Nat.min_eq_right (by omega)]
    simp
    omega
end QL
end
section
set_option linter.all false
set_option maxRecDepth 100000
set_option maxHeartbeats 4000000
namespace QL
namespace K02
open PySem PySem.Spec PyProof.Rows L2

/-- a name -/
def Nm (x : Str) : Prop := 1 ≤ x.cps.size ∧ x.cps.size ≤ 8 ∧ ∀ c ∈ x.cps.toList, 97 ≤ c ∧ c ≤ 122
abbrev abc : Str := Str.ofString "abcdefghijklmnopqrstuvwxyz"
theorem occ_abc : ∀ k : _root_.Fin 26, (!(Builtin.Str.occurrences abc ⟨#[97 + k.val]⟩ 0 abc.length 1).isEmpty) = true := by decide +kernel
theorem occ_in {c : Nat} (h : 97 ≤ c ∧ c ≤ 122) : (!(Builtin.Str.occurrences abc ⟨#[c]⟩ 0 abc.length 1).isEmpty) = true := by
  have := occ_abc ⟨c - 97, by omega⟩
  rw [show 97 + (⟨c - 97, by omega⟩ : _root_.Fin 26).val = c by show 97 + (c - 97) = c; omega] at this
  exact this
theorem abc_list : abc.cps.toList = (List.range 26).map (97 + ·) := by decide +kernel
theorem abc_at {r : Int} (h0 : 0 ≤ r) (h1 : r < 26) : atI abc.cps.toList r = some (97 + r.toNat) := by
  obtain ⟨k, rfl⟩ := Int.eq_ofNat_of_zero_le h0
  refine atI_nat ?_
  rw [abc_list, List.getElem?_map, List.getElem?_range (by omega)]
  simp
theorem bools_rep : ∀ n : Nat, boolsOf (List.replicate n (.bool true)) = some (List.replicate n true)
  | 0 => rfl
  | n + 1 => by rw [List.replicate_succ]; unfold boolsOf; rw [bools_rep n]; rfl
theorem all_rep (n : Nat) : (List.replicate n true).all id = true := by
  rw [List.all_eq_true]
  intro b hb
  exact List.eq_of_mem_replicate hb
theorem is_name_ok {n : Nat} {x : Str} {K : CK} {X : CX} (hx : Nm x) (hK : K (.v (.dat (.bool true))) [.dat (.str x)]) : callW Pg (n + 1) 28 [.dat (.str x)] K X := by
  obtain ⟨h1, h2, h3⟩ := hx
  refine call_of (fn := ir_is_name) rfl ?_
  refine cond_yes (decide_eq_true (by show (1 : Int) ≤ (x.cps.size : Int); omega)) ?_
  refine cond_yes (decide_eq_true (by show (x.cps.size : Int) ≤ 8; omega)) ?_
  refine compD_ind _ (fun i acc σ => acc = List.replicate i (.dat (.bool true)) ∧ ∃ y, σ = [some (.v (.dat (.str x))), y] ∧ (y = none ∨ ∃ m, y = some (.v m))) ⟨rfl, none, rfl, .inl rfl⟩ ?_ ?_
  · rintro i b acc σ N hb ⟨rfl, y, rfl, hy⟩ hN
    obtain ⟨c, hc, rfl⟩ : ∃ c, c ∈ x.cps.toList ∧ b = oneD (.str ⟨#[c]⟩) := by
      rw [List.getElem?_map] at hb
      unfold signs at hb
      rw [List.getElem?_map] at hb
      cases e : x.cps.toList[i]? with
      | none => rw [e] at hb; cases hb
      | some c => rw [e] at hb; cases hb; exact ⟨c, List.mem_of_getElem? e, rfl⟩
    have g : N [.dat (.bool (!(Builtin.Str.occurrences abc ⟨#[c]⟩ 0 abc.length 1).isEmpty))] [some (.v (.dat (.str x))), some (.v (.dat (.str ⟨#[c]⟩)))] := by
      rw [occ_in (h3 c hc)]
      exact hN _ _ ⟨by rw [List.replicate_succ'], _, rfl, .inr ⟨_, rfl⟩⟩
    rcases hy with rfl | ⟨m, rfl⟩
    · exact g
    · exact g
  · rintro acc σ ⟨rfl, y, rfl, hy⟩
    have g : ∀ acc' : M, acc' = .sl (List.replicate ((signs x).map oneD).length (.bool true)) → listW acc' fun ds => ∃ bs, boolsOf ds = some bs ∧ K (.v (.dat (.bool (bs.all id)))) [.dat (.str x)] := by
      rintro _ rfl
      refine Exists.intro _ (And.intro (bools_rep _) ?_)
      rw [all_rep]
      exact hK
    have e : mkL (List.replicate ((signs x).map oneD).length (.dat (.bool true))) = .sl (List.replicate ((signs x).map oneD).length (.bool true)) := by
      rw [← mkL_dat, List.map_replicate]
    rcases hy with rfl | ⟨m, rfl⟩
    · show settleW (mkL _) _
      rw [e]
      exact g _ rfl
    · show settleW (mkL _) _
      rw [e]
      exact g _ rfl
theorem draw_ok {n : Nat} {a b c m : Int} {K : CK} {X : CX} (hm : 0 < m) (hm2 : m < 2 ^ 100) (hb : 0 ≤ b ∧ b < 2 ^ 80) (hc : 0 ≤ c ∧ c < 2 ^ 40)
    (hK : ∀ r a' c', 0 ≤ r → r < m → 0 ≤ c' → c' ≤ c + 1 → K (.v (.dat (.int r))) [.sl [.int a', .int b, .int c'], .dat (.int m)]) : callW Pg (n + 1) 42 [.sl [.int a, .int b, .int c], .dat (.int m)] K X := by
  have fin : ∀ x a' c', 0 ≤ c' → c' ≤ c + 1 → K (.v (.dat (.int (x % m)))) [.sl [.int a', .int b, .int c'], .dat (.int m)] := fun x a' c' h1 h2 => hK _ _ _ (Int.emod_nonneg _ (by omega)) (Int.emod_lt_of_pos _ hm) h1 h2
  refine call_of (fn := ir__law_draw) rfl ?_
  refine Exists.intro _ (And.intro rfl ?_)
  refine cond_split (fun h => ?_) (fun h => ?_)
  · refine Exists.intro _ (And.intro rfl ?_)
    refine And.intro hm ?_
    refine Exists.intro _ (And.intro rfl ?_)
    refine And.intro (And.intro hm (Nat.lt_of_lt_of_le (lgI (k := 100) (by omega) hm2 (by decide)) (by decide))) ?_
    refine Exists.intro _ (And.intro rfl ?_)
    exact fin _ _ _ hc.1 (by omega)
  · refine Exists.intro _ (And.intro rfl ?_)
    refine Exists.intro _ (And.intro rfl ?_)
    refine Exists.intro _ (And.intro rfl ?_)
    refine Exists.intro _ (And.intro rfl ?_)
    refine And.intro ?_ ?_
    · have := lgI (i := c + 1) (k := 41) (by omega) (by omega) (by decide)
      have h2 : (179424673 : Int).natAbs.log2 ≤ 30 := by decide
      exact Nat.lt_of_le_of_lt (Nat.add_le_add h2 (Nat.le_of_lt this)) (by decide)
    refine And.intro ?_ ?_
    · refine And.intro (by decide) (And.intro (by decide) ?_)
      refine Nat.lt_of_lt_of_le (lgI (k := 100) ?_ ?_ (by decide)) (by decide)
      · omega
      · omega
    refine And.intro (And.intro (by decide) (And.intro (by decide) (by decide +kernel))) ?_
    refine And.intro (by decide +kernel) ?_
    refine Exists.intro _ (And.intro rfl ?_)
    refine And.intro ?_ ?_
    · have := lgI (i := c + 1) (k := 41) (by omega) (by omega) (by decide)
      have h2 : (86028121 : Int).natAbs.log2 ≤ 30 := by decide
      exact Nat.lt_of_le_of_lt (Nat.add_le_add h2 (Nat.le_of_lt this)) (by decide)
    refine And.intro ?_ ?_
    · refine And.intro (by decide) (And.intro (by decide) ?_)
      have hp : (0 : Int) < 10 ^ 26 + 67 := by decide +kernel
      have h1 := Int.emod_nonneg ((b + 179424673 * (c + 1)) ^ 3) (Int.ne_of_gt hp)
      have h2 := Int.emod_lt_of_pos ((b + 179424673 * (c + 1)) ^ 3) hp
      have h3 : (10 : Int) ^ 26 + 67 < 2 ^ 90 := by decide +kernel
      refine Nat.lt_of_lt_of_le (lgI (k := 100) ?_ ?_ (by decide)) (by decide)
      · show _ < (b + 179424673 * (c + 1)) ^ 3 % (10 ^ 26 + 67) + 86028121 * (c + 1)
        omega
      · show (b + 179424673 * (c + 1)) ^ 3 % (10 ^ 26 + 67) + 86028121 * (c + 1) < _
        omega
    refine And.intro (And.intro (by decide) (And.intro (by decide) (by decide +kernel))) ?_
    refine And.intro (by decide +kernel) ?_
    refine And.intro (And.intro (by decide) (by decide +kernel)) ?_
    refine And.intro hm ?_
    exact fin _ _ _ (by omega) (by omega)
end K02
end QL
end
section
set_option linter.all false
set_option maxRecDepth 100000
set_option maxHeartbeats 1000000
namespace QL
namespace K02
open PySem PySem.Spec PyProof.Rows L2

abbrev gm (call : Nat → List M → CK → CX → Prop) : Ctx := { call := call, meth := Pg.meth, prop := Pg.prop, init := Pg.init, sub := Pg.sub }
def DrawS (call : Nat → List M → CK → CX → Prop) : Prop := ∀ (a b c m : Int) (K : CK) (X : CX), 0 < m → m < 2 ^ 100 → (0 ≤ b ∧ b < 2 ^ 80) → (0 ≤ c ∧ c < 2 ^ 40) →
  (∀ r a' c', 0 ≤ r → r < m → 0 ≤ c' → c' ≤ c + 1 → K (.v (.dat (.int r))) [.sl [.int a', .int b, .int c'], .dat (.int m)]) → call 42 [.sl [.int a, .int b, .int c], .dat (.int m)] K X
theorem draw_S (n : Nat) : DrawS (callW Pg (n + 1)) := fun a b c m K X h1 h2 h3 h4 h5 => draw_ok h1 h2 h3 h4 h5
abbrev sack (a b c : Int) : M := .sl [.int a, .int b, .int c]
def menu : List Str := ["plain", "put", "set", "rewrite", "edition", "read", "follows", "stays", "a", "b", "told", "now", "old", "lacks", "nobody", "formula"]
instance : DecidablePred Nm := fun x => by unfold Nm; infer_instance
theorem menu_nm : ∀ t ∈ menu, Nm t := by decide +kernel
theorem menu_nd : menu.Nodup := by decide +kernel
theorem smallN {k : Nat} (h : k ≤ 16777216) : smallI (k : Int) ∧ (k : Int) ≤ 16777216 := by
  unfold smallI
  omega
theorem join_sg (cs : List Nat) : Txt.join (Str.ofString "") (cs.map fun c => (⟨#[c]⟩ : Str)) = ⟨cs.toArray⟩ := by
  have e : Str.ofString "" = Str.empty := by decide
  rw [e]
  show Builtin.Str.glued _ _ = _
  rw [PySem.StrLaws.glued_eq_join]
  induction cs with
  | nil => rfl
  | cons c r ih =>
    cases r with
    | nil => rfl
    | cons d r =>
      show (⟨#[c]⟩ : Str) ++ Str.empty ++ Str.join Str.empty (List.map _ (d :: r)) = _
      rw [ih]
      show (⟨(#[c] ++ #[]) ++ (d :: r).toArray⟩ : Str) = _
      simp
theorem mkL_strs (ts : List Str) : mkL (ts.map fun t => .dat (.str t)) = .sl (ts.map .str) := by
  rw [← mkL_dat, List.map_map]
  rfl
abbrev sg (c : Nat) : Str := ⟨#[c]⟩
def Lo (cs : List Nat) : Prop := ∀ c ∈ cs, 97 ≤ c ∧ c ≤ 122
theorem Nm_of {cs : List Nat} (h : Lo cs) (h1 : 1 ≤ cs.length) (h2 : cs.length ≤ 8) : Nm ⟨cs.toArray⟩ := by
  refine ⟨by simpa using h1, by simpa using h2, fun c hc => h c (by simpa using hc)⟩
theorem mod26 {s t i j : Int} (h : t = 1 ∨ t = 3 ∨ t = 7 ∨ t = 11 ∨ t = 25) (hi : 0 ≤ i ∧ i < 26) (hj : 0 ≤ j ∧ j < 26) (e : (s + t * i) % 26 = (s + t * j) % 26) : i = j := by
  rcases h with rfl | rfl | rfl | rfl | rfl <;> omega
theorem pool_at {r : Int} (h0 : 0 ≤ r) (h1 : r < 5) : ∃ t : Int, atI [PyData.int 1, .int 3, .int 7, .int 11, .int 25] r = some (.int t) ∧ (t = 1 ∨ t = 3 ∨ t = 7 ∨ t = 11 ∨ t = 25) := by
  obtain ⟨k, rfl⟩ := Int.eq_ofNat_of_zero_le h0
  have : k < 5 := by omega
  match k, this with
  | 0, _ => exact ⟨1, rfl, by simp⟩
  | 1, _ => exact ⟨3, rfl, by simp⟩
  | 2, _ => exact ⟨7, rfl, by simp⟩
  | 3, _ => exact ⟨11, rfl, by simp⟩
  | 4, _ => exact ⟨25, rfl, by simp⟩
theorem cutStr_take (cs : List Nat) (k : Nat) : cutStr ⟨cs.toArray⟩ none (some (k : Int)) = ⟨(cs.take k).toArray⟩ := by
  unfold cutStr
  rw [show (⟨cs.toArray⟩ : Str).cps.toList = cs by simp, cut_take]
theorem cut_mid {α : Type} (l : List α) {k j : Nat} (h : k + j ≤ l.length) : cut l (some (k : Int)) (some ((k + j : Nat) : Int)) = (l.drop k).take j := by
  unfold cut
  rw [HT.sIx_nat, HT.sIx_nat, Nat.min_eq_left (by omega), Nat.min_eq_left (by omega)]
  congr 1
  omega
theorem cutStr_mid (cs : List Nat) {k j : Nat} (h : k + j ≤ cs.length) : cutStr ⟨cs.toArray⟩ (some (k : Int)) (some ((k + j : Nat) : Int)) = ⟨((cs.drop k).take j).toArray⟩ := by
  unfold cutStr
  rw [show (⟨cs.toArray⟩ : Str).cps.toList = cs by simp, cut_mid _ h]
theorem mkL_sg (cs : List Nat) : mkL (cs.map fun t => .dat (.str (sg t))) = .sl ((cs.map sg).map .str) := by
  rw [← mkL_strs, List.map_map]
  rfl
theorem strs_sg (cs : List Nat) : strsOf ((cs.map sg).map .str) = some (cs.map sg) := strsOf_map _
theorem sum_len : ∀ cs : List Nat, ((cs.map sg).map (·.length)).sum = cs.length
  | [] => rfl
  | c :: r => by
    rw [List.map_cons, List.map_cons, List.sum_cons, sum_len r]
    show 1 + r.length = r.length + 1
    omega
theorem sum_sg (cs : List Nat) (h : cs.length ≤ 100) : ((cs.map sg).map (·.length)).sum + (cs.map sg).length * (Str.ofString "").length ≤ 16777216 := by
  rw [sum_len, show (Str.ofString "").length = 0 by decide]
  omega
/-- names that differ in one letter -/
def T (cs : List Nat) (p q : Nat) (st step : Int) (j : Nat) : Str := cutStr ⟨cs.toArray⟩ none (some (p : Int)) ++ sg (97 + ((st + step * (0 + (j : Int))) % 26).toNat) ++ cutStr ⟨cs.toArray⟩ (some (p : Int)) (some ((p : Int) + (q : Int)))
theorem T_eq {cs : List Nat} {p q : Nat} {st step : Int} (h : p + q ≤ cs.length) (j : Nat) : T cs p q st step j = ⟨(cs.take p ++ (97 + ((st + step * j) % 26).toNat) :: (cs.drop p).take q).toArray⟩ := by
  unfold T
  rw [cutStr_take, show (p : Int) + (q : Int) = ((p + q : Nat) : Int) by simp, cutStr_mid cs h, Int.zero_add]
  show (⟨(cs.take p).toArray ++ #[_] ++ ((cs.drop p).take q).toArray⟩ : Str) = _
  simp
theorem and_test {b1 b2 : Bool} {A B : Prop} (h : b1 = true → b2 = true → A) (h2 : B) : condW b1 (condW b2 A B) (condW b1 A B) := by
  cases b1
  · exact h2
  · cases b2
    · exact h2
    · exact h rfl rfl
theorem nodup_on {α β : Type} {f : α → β} : ∀ {l : List α}, (∀ x ∈ l, ∀ y ∈ l, f x = f y → x = y) → l.Nodup → (l.map f).Nodup
  | [], _, _ => by simp
  | a :: r, h, nd => by
    have nd := List.nodup_cons.mp nd
    rw [List.map_cons]
    refine List.nodup_cons.mpr ⟨fun hm => ?_, nodup_on (fun x hx y hy => h x (List.mem_cons_of_mem _ hx) y (List.mem_cons_of_mem _ hy)) nd.2⟩
    obtain ⟨y, hy, e⟩ := List.mem_map.mp hm
    have := h y (List.mem_cons_of_mem _ hy) a List.mem_cons_self e
    subst this
    exact nd.1 hy
abbrev TwoV (y z : Option SV) : Prop := (y = none ∧ z = none) ∨ ∃ m n, y = some (.v m) ∧ z = some (.v n)
theorem len_le {α : Type} [DecidableEq α] : ∀ {l m : List α}, l.Nodup → (∀ x ∈ l, x ∈ m) → l.length ≤ m.length
  | [], _, _, _ => Nat.zero_le _
  | a :: r, m, nd, h => by
    have nd := List.nodup_cons.mp nd
    have ha := h a List.mem_cons_self
    have := len_le (l := r) (m := m.erase a) nd.2 fun x hx => (List.mem_erase_of_ne (fun e : x = a => nd.1 (e ▸ hx))).mpr (h x (List.mem_cons_of_mem _ hx))
    rw [List.length_erase_of_mem ha] at this
    have : 0 < m.length := List.length_pos_of_mem ha
    simp
    omega
abbrev AZ : List Nat := (List.range 26).map (97 + ·)
/-- a letter that is not there yet -/
theorem letter_run {Γ : Ctx} {D : Post} {m0 m1 m3 m5 m6 m12 m13 : M} {L : Str} {fs : List Str} (hL : L.cps.toList = AZ) (hf : fs.length < 26)
    (h : ∀ ch, 97 ≤ ch ∧ ch ≤ 122 → sg ch ∉ fs → D.nx [some (.v m0), some (.v m1), some (.v (.dat (.str L))), some (.v m3), some (.v (.sl (fs.map .str))), some (.v m5), some (.v m6), none, none, none, none, none, some (.v m12), some (.v (.dat (.str (sg ch)))), none, none]) :
    exS Γ true (.asg (.n 13) (.ix (.comp [15] (.n 15) (.e (.x 2)) (.some (.cmp .notin (.x 15) (.x 4))) (.x 15)) (.c (.int 0)))) [some (.v m0), some (.v m1), some (.v (.dat (.str L))), some (.v m3), some (.v (.sl (fs.map .str))), some (.v m5), some (.v m6), none, none, none, none, none, some (.v m12), some (.v m13), none, none] D := by
  refine compW_dat (fun i' acc σ => ∃ (y : Option SV), acc = ((AZ.take i').filter fun ch => decide (sg ch ∉ fs)).map (fun t => .dat (.str (sg t))) ∧ OneV y ∧
    σ = [some (.v m0), some (.v m1), some (.v (.dat (.str L))), some (.v m3), some (.v (.sl (fs.map .str))), some (.v m5), some (.v m6), none, none, none, none, none, some (.v m12), some (.v m13), none, y]) ?_ ?_ ?_
  · exact ⟨none, rfl, .inl rfl, rfl⟩
  · rintro i' b'' acc σ N' hb'' ⟨y, rfl, hy, rfl⟩ hN'
    obtain ⟨ch, hch, rfl⟩ : ∃ ch, AZ[i']? = some ch ∧ b'' = oneD (.str (sg ch)) := by
      rw [List.getElem?_map] at hb''
      unfold signs at hb''
      rw [List.getElem?_map, hL] at hb''
      cases e : AZ[i']? with
      | none => rw [e] at hb''; cases hb''
      | some c => rw [e] at hb''; cases hb''; exact ⟨c, rfl, rfl⟩
    have et : AZ.take (i' + 1) = AZ.take i' ++ [ch] := by
      rw [List.take_succ, hch]
      rfl
    rcases hy with rfl | ⟨m2, rfl⟩ <;>
    · refine And.intro rfl (And.intro (ok_strs fs) ?_)
      refine cond_split (fun e5 => ?_) (fun e5 => ?_)
      · have e5 : (!((fs.map PyData.str).any fun z => PyData.eqv z (.str (sg ch)))) = true := e5
        rw [any_str] at e5
        refine hN' [.dat (.str (sg ch))] _ ⟨_, ?_, .inr ⟨_, rfl⟩, rfl⟩
        rw [et, List.filter_append, List.map_append]
        simp at e5
        simp [e5]
      · have e5 : (!((fs.map PyData.str).any fun z => PyData.eqv z (.str (sg ch)))) = false := e5
        rw [any_str] at e5
        refine hN' [] _ ⟨_, ?_, .inr ⟨_, rfl⟩, rfl⟩
        rw [et, List.filter_append, List.map_append]
        simp at e5
        simp [e5]
  · rintro acc σ ⟨y, rfl, hy, rfl⟩
    refine ⟨[some (.v m0), some (.v m1), some (.v (.dat (.str L))), some (.v m3), some (.v (.sl (fs.map .str))), some (.v m5), some (.v m6), none, none, none, none, none, some (.v m12), some (.v m13), none, none],
      fun K' k => (by rcases hy with rfl | ⟨m2, rfl⟩ <;> exact k), ?_⟩
    have el : AZ.take ((signs L).map oneD).length = AZ := by
      unfold signs
      rw [List.length_map, List.length_map, hL]
      decide +kernel
    rw [el]
    obtain ⟨ch, rest, ef⟩ : ∃ ch rest, AZ.filter (fun ch => decide (sg ch ∉ fs)) = ch :: rest := by
      cases ef : AZ.filter (fun ch => decide (sg ch ∉ fs)) with
      | cons ch rest => exact ⟨ch, rest, rfl⟩
      | nil =>
        have : (AZ.map sg).length ≤ fs.length := len_le (by decide +kernel) fun x hx => by
          obtain ⟨ch, hc, rfl⟩ := List.mem_map.mp hx
          have := List.filter_eq_nil_iff.mp ef ch hc
          simpa using this
        simp at this
        omega
    rw [ef]
    have hc : ch ∈ AZ.filter (fun ch => decide (sg ch ∉ fs)) := by rw [ef]; exact List.mem_cons_self
    obtain ⟨hc1, hc2⟩ := List.mem_filter.mp hc
    obtain ⟨kk, hk, rfl⟩ := List.mem_map.mp hc1
    have hk := List.mem_range.mp hk
    show ixSW Γ (.v (mkL (((97 + kk) :: rest).map fun t => .dat (.str (sg t))))) (.v (.dat (.int 0))) _ _ _
    rw [mkL_sg]
    refine Exists.intro (.str (sg (97 + kk))) (And.intro (show atI _ ((0 : Nat) : Int) = _ from atI_nat rfl) ?_)
    exact h (97 + kk) (by omega) (by simpa using hc2)
theorem titles_run {call : Nat → List M → CK → CX → Prop} (hd : DrawS call) {a b c : Int} {many : Nat} {K : CK} {X : CX} (hm : many ≤ 14) (hb : 0 ≤ b ∧ b < 2 ^ 80) (hc : 0 ≤ c ∧ c < 2 ^ 39)
    (hK : ∀ (ts : List Str) a' c', ts.length = many → (∀ t ∈ ts, Nm t) → ts.Nodup → 0 ≤ c' → c' ≤ c + 200 → K (.v (.sl (ts.map .str))) [sack a' b c', .dat (.int many)]) :
    runW (gm call) ir__law_some_titles [sack a b c, .dat (.int many)] K X := by
  refine hd _ _ _ _ _ _ (by decide) (by decide) hb ⟨hc.1, by omega⟩ (fun r a1 c1 h0 h1 h2 h3 => ?_)
  (repeat (first | refine Exists.intro _ (And.intro rfl ?_) | refine And.intro rfl ?_ | refine And.intro (by decide) ?_))
  refine cond_split (fun e0 => ?_) (fun e0 => ?_)
  · -- picks off the menu
    refine And.intro (smallN (by omega)) ?_
    refine compW_dat (fun i acc σ => ∃ (a c : Int) (ts ms : List Str) (y : Option SV), 0 ≤ c ∧ c ≤ c1 + i ∧ ts.length = i ∧ (ts ++ ms).Perm menu ∧ acc = ts.map (fun t => .dat (.str t)) ∧ OneV y ∧
      σ = [some (.v (sack a b c)), some (.v (.dat (.int many))), some (.v (.dat (.str abc))), some (.v (.dat (.int r))), some (.v (.sl [])), some (.v (.sl (ms.map .str))), none, none, none, none, none, none, y, none, none, none]) ?_ ?_ ?_
    · exact ⟨a1, c1, [], menu, none, h2, by omega, rfl, List.Perm.refl _, rfl, .inl rfl, rfl⟩
    · rintro i b' acc σ N hb' ⟨a2, c2, ts, ms, y, g1, g2, g3, g4, rfl, hy, rfl⟩ hN
      obtain ⟨rfl, hi⟩ := rangeD_get hb'
      have hi : i < many := by simpa using hi
      have hlen : ts.length + ms.length = 16 := by
        have := g4.length_eq
        rw [List.length_append] at this
        exact this
      rcases hy with rfl | ⟨m0, rfl⟩ <;>
      · refine hd _ _ _ _ _ _ ?_ ?_ hb ⟨g1, by omega⟩ (fun r2 a3 c3 k0 k1 k2 k3 => ?_)
        · rw [List.length_map]; omega
        · rw [List.length_map]; omega
        · rw [List.length_map] at k1
          obtain ⟨j, rfl⟩ := Int.eq_ofNat_of_zero_le k0
          have hj : j < ms.length := by omega
          refine Exists.intro j (Exists.intro (.str ms[j]) (And.intro (ixN_nat (by rw [List.length_map]; exact hj)) (And.intro (by simp [hj]) ?_)))
          rw [erase_map]
          refine hN [.dat (.str ms[j])] _ ⟨a3, c3, ts ++ [ms[j]], ms.eraseIdx j, _, k2, by omega, by simp [g3], ?_, by simp, .inr ⟨_, rfl⟩, rfl⟩
          rw [List.append_assoc]
          exact (List.Perm.append_left ts (erase_perm hj)).trans g4
    · rintro acc σ ⟨a2, c2, ts, ms, y, g1, g2, g3, g4, rfl, hy, rfl⟩
      have g3 : ts.length = many := by rw [g3, QL.rangeD_len]; simp
      have hl : ((rangeD 0 (many : Int).toNat).length : Int) ≤ 14 := by rw [QL.rangeD_len]; simp; omega
      have fin := hK ts a2 c2 g3 (fun t ht => menu_nm t (g4.subset (List.mem_append_left _ ht))) (List.nodup_append.mp (g4.nodup_iff.mpr menu_nd)).1 g1 (by omega)
      rw [← mkL_strs] at fin
      exact ⟨[some (.v (sack a2 b c2)), some (.v (.dat (.int many))), some (.v (.dat (.str abc))), some (.v (.dat (.int r))), some (.v (.sl [])), some (.v (.sl (ms.map .str))), none, none, none, none, none, none, none, none, none, none],
        fun K' k => (by rcases hy with rfl | ⟨m0, rfl⟩ <;> exact k), fin⟩
  -- a stem of eight letters
  refine And.intro (smallN (k := 8) (by omega)) ?_
  refine compW_dat (fun i acc σ => ∃ (a c : Int) (cs : List Nat) (y : Option SV), 0 ≤ c ∧ c ≤ c1 + i ∧ cs.length = i ∧ Lo cs ∧ acc = cs.map (fun t => .dat (.str (sg t))) ∧ OneV y ∧
      σ = [some (.v (sack a b c)), some (.v (.dat (.int many))), some (.v (.dat (.str abc))), some (.v (.dat (.int r))), some (.v (.sl [])), some (.v (.sl (menu.map .str))), none, none, none, none, none, none, y, none, none, none]) ?_ ?_ ?_
  · exact ⟨a1, c1, [], none, h2, by omega, rfl, (fun _ h => by cases h), rfl, .inl rfl, rfl⟩
  · rintro i b' acc σ N hb' ⟨a2, c2, cs, y, g1, g2, g3, g4, rfl, hy, rfl⟩ hN
    obtain ⟨rfl, hi⟩ := rangeD_get hb'
    have hi : i < 8 := by simpa using hi
    rcases hy with rfl | ⟨m0, rfl⟩ <;>
    · refine hd _ _ _ _ _ _ (by decide) (by decide) hb ⟨g1, by omega⟩ (fun r2 a3 c3 k0 k1 k2 k3 => ?_)
      refine Exists.intro _ (And.intro (abc_at k0 k1) ?_)
      refine hN [.dat (.str (sg (97 + r2.toNat)))] _ ⟨a3, c3, cs ++ [97 + r2.toNat], _, k2, by omega, by simp [g3], ?_, by simp, .inr ⟨_, rfl⟩, rfl⟩
      intro z hz
      rcases List.mem_append.mp hz with hz | hz
      · exact g4 z hz
      · have : z = 97 + r2.toNat := by simpa using hz
        omega
  rintro acc σ ⟨a2, c2, cs, y, g1, g2, g3, g4, rfl, hy, rfl⟩
  have g3 : cs.length = 8 := g3
  have g2 : c2 ≤ c1 + 8 := g2
  clear e0
  refine ⟨[some (.v (sack a2 b c2)), some (.v (.dat (.int many))), some (.v (.dat (.str abc))), some (.v (.dat (.int r))), some (.v (.sl [])), some (.v (.sl (menu.map .str))), none, none, none, none, none, none, none, none, none, none],
    fun K' k => (by rcases hy with rfl | ⟨m0, rfl⟩ <;> exact k), ?_⟩
  show settleW (mkL (cs.map fun t => .dat (.str (sg t)))) _
  rw [mkL_sg]
  refine Exists.intro (cs.map sg) (And.intro (strs_sg cs) (And.intro (sum_sg cs (by omega)) ?_))
  rw [join_sg]
  (repeat (first | refine Exists.intro _ (And.intro rfl ?_) | refine And.intro rfl ?_ | refine And.intro (by decide) ?_))
  refine cond_split (fun e1 => ?_) (fun e1 => ?_)
  · -- one letter differs
    refine hd _ _ _ _ _ _ (by decide) (by decide) hb ⟨g1, by omega⟩ (fun at_ a3 c3 k0 k1 k2 k3 => ?_)
    refine hd _ _ _ _ _ _ (by decide) (by decide) hb ⟨k2, by omega⟩ (fun st a4 c4 l0 l1 l2 l3 => ?_)
    refine hd _ _ _ _ _ _ (by decide) (by decide) hb ⟨l2, by omega⟩ (fun r5 a5 c5 m0 m1 m2 m3 => ?_)
    obtain ⟨step, hstep, hst⟩ := pool_at m0 m1
    refine Exists.intro _ (And.intro hstep ?_)
    (repeat (first | refine Exists.intro _ (And.intro rfl ?_) | refine And.intro rfl ?_ | refine And.intro (by decide) ?_))
    refine hd _ _ _ _ _ _ (by omega) (by omega) hb ⟨m2, by omega⟩ (fun t a6 c6 n0 n1 n2 n3 => ?_)
    obtain ⟨p, rfl⟩ := Int.eq_ofNat_of_zero_le k0
    obtain ⟨q, rfl⟩ := Int.eq_ofNat_of_zero_le n0
    have hp : p < 8 := by omega
    have hq : p + q < 8 := by omega
    refine And.intro (smallN (by omega)) ?_
    have eT : ∀ j : Nat, T cs p q st step j = ⟨(cs.take p ++ (97 + ((st + step * j) % 26).toNat) :: (cs.drop p).take q).toArray⟩ := fun j => T_eq (by omega) j
    refine compW_dat (fun i acc σ => ∃ (y : Option SV), acc = ((List.range i).map (T cs p q st step)).map (fun t => .dat (.str t)) ∧ OneV y ∧
      σ = [some (.v (sack a6 b c6)), some (.v (.dat (.int many))), some (.v (.dat (.str abc))), some (.v (.dat (.int r))), some (.v (.sl [])), some (.v (.sl (menu.map .str))), some (.v (.dat (.str ⟨cs.toArray⟩))), some (.v (.dat (.int p))), some (.v (.dat (.int st))), some (.v (.dat (.int step))),
        some (.v (.dat (.str (cutStr ⟨cs.toArray⟩ (some (p : Int)) (some ((p : Int) + (q : Int))))))), none, y, none, none, none]) ?_ ?_ ?_
    · exact ⟨none, rfl, .inl rfl, rfl⟩
    · rintro i b' acc σ N hb' ⟨y, rfl, hy, rfl⟩ hN
      obtain ⟨rfl, hi⟩ := rangeD_get hb'
      have hi : i < many := by simpa using hi
      have e1 := Int.emod_nonneg (st + step * (0 + (i : Int))) (show (26 : Int) ≠ 0 by decide)
      have e2 := Int.emod_lt_of_pos (st + step * (0 + (i : Int))) (show (0 : Int) < 26 by decide)
      have hl1 : (cutStr ⟨cs.toArray⟩ none (some (p : Int))).length ≤ 8 := by
        rw [cutStr_take]
        show (cs.take p).toArray.size ≤ 8
        simp
        omega
      have hl2 : (cutStr ⟨cs.toArray⟩ (some (p : Int)) (some ((p : Int) + (q : Int)))).length ≤ 8 := by
        rw [show (p : Int) + (q : Int) = ((p + q : Nat) : Int) by simp, cutStr_mid cs (by omega)]
        show ((cs.drop p).take q).toArray.size ≤ 8
        simp
        omega
      rcases hy with rfl | ⟨m0, rfl⟩ <;>
      · refine And.intro ?_ (And.intro (by decide) (Exists.intro _ (And.intro (abc_at e1 e2) (And.intro ?_ (And.intro ?_ ?_)))))
        · have q1 := lgI (i := step) (k := 5) (by omega) (by omega) (by decide)
          have q2 := lgI (i := 0 + (i : Int)) (k := 5) (by omega) (by omega) (by decide)
          omega
        · show (cutStr ⟨cs.toArray⟩ none (some (p : Int))).length + 1 ≤ 16777216
          omega
        · show (cutStr ⟨cs.toArray⟩ none (some (p : Int)) ++ sg _).length + _ ≤ 16777216
          rw [show ∀ u v : Str, (u ++ v).length = u.length + v.length from PySem.Str.length_append]
          show (cutStr ⟨cs.toArray⟩ none (some (p : Int))).length + 1 + _ ≤ 16777216
          omega
        refine hN [.dat (.str (T cs p q st step i))] _ ⟨_, ?_, .inr ⟨_, rfl⟩, rfl⟩
        rw [List.range_succ, List.map_append, List.map_append]
        rfl
    · rintro acc σ ⟨y, rfl, hy, rfl⟩
      refine ⟨[some (.v (sack a6 b c6)), some (.v (.dat (.int many))), some (.v (.dat (.str abc))), some (.v (.dat (.int r))), some (.v (.sl [])), some (.v (.sl (menu.map .str))), some (.v (.dat (.str ⟨cs.toArray⟩))), some (.v (.dat (.int p))), some (.v (.dat (.int st))), some (.v (.dat (.int step))),
        some (.v (.dat (.str (cutStr ⟨cs.toArray⟩ (some (p : Int)) (some ((p : Int) + (q : Int))))))), none, none, none, none, none], fun K' k => (by rcases hy with rfl | ⟨m0, rfl⟩ <;> exact k), ?_⟩
      have e3 : (rangeD 0 (many : Int).toNat).length = many := by rw [QL.rangeD_len]; simp
      rw [e3]
      have nmT : ∀ t ∈ (List.range many).map (T cs p q st step), Nm t := fun t ht => by
        obtain ⟨j, hj, rfl⟩ := List.mem_map.mp ht
        rw [eT j]
        have f1 := Int.emod_nonneg (st + step * (j : Int)) (show (26 : Int) ≠ 0 by decide)
        have f2 := Int.emod_lt_of_pos (st + step * (j : Int)) (show (0 : Int) < 26 by decide)
        refine Nm_of (fun z hz => ?_) ?_ ?_
        · rcases List.mem_append.mp hz with hz | hz
          · exact g4 z (List.mem_of_mem_take hz)
          · rcases List.mem_cons.mp hz with rfl | hz
            · omega
            · exact g4 z (List.mem_of_mem_drop (List.mem_of_mem_take hz))
        · simp
          omega
        · simp
          omega
      have ndT : ((List.range many).map (T cs p q st step)).Nodup := by
        refine nodup_on (fun i hi j hj e => ?_) List.nodup_range
        rw [eT i, eT j] at e
        have e := congrArg (fun s : Str => s.cps.toList[p]?) e
        have lp : (cs.take p).length = p := by simp; omega
        simp only [List.toList_toArray, List.getElem?_append_right (Nat.le_of_eq lp), lp, Nat.sub_self, List.getElem?_cons_zero, Option.some.injEq] at e
        have f1 := Int.emod_nonneg (st + step * (i : Int)) (show (26 : Int) ≠ 0 by decide)
        have f2 := Int.emod_nonneg (st + step * (j : Int)) (show (26 : Int) ≠ 0 by decide)
        have e4 : (st + step * (i : Int)) % 26 = (st + step * (j : Int)) % 26 := by omega
        have hi := List.mem_range.mp hi
        have hj := List.mem_range.mp hj
        have := mod26 hst ⟨by omega, by omega⟩ ⟨by omega, by omega⟩ e4
        omega
      have fin := hK ((List.range many).map (T cs p q st step)) a6 c6 (by simp) nmT ndT (by omega) (by omega)
      rw [← mkL_strs] at fin
      exact fin
  (repeat (first | refine Exists.intro _ (And.intro rfl ?_) | refine And.intro rfl ?_ | refine And.intro (by decide) ?_))
  refine and_test (fun e2 e3 => ?_) ?_
  · -- beginnings of the stem
    have hm9 : many < 9 := by
      have : ((many : Nat) : Int) < 9 := of_decide_eq_true e3
      omega
    refine And.intro (smallN (by omega)) ?_
    refine compW_dat (fun i acc σ => ∃ (a c : Int) (ps ks : List Nat) (y : Option SV), 0 ≤ c ∧ c ≤ c2 + i ∧ ps.length = i ∧ (ps ++ ks).Perm [1, 2, 3, 4, 5, 6, 7, 8] ∧ acc = (ps.map fun k => (⟨(cs.take k).toArray⟩ : Str)).map (fun t => .dat (.str t)) ∧ OneV y ∧
      σ = [some (.v (sack a b c)), some (.v (.dat (.int many))), some (.v (.dat (.str abc))), some (.v (.dat (.int r))), some (.v (.sl [])), some (.v (.sl (menu.map .str))), some (.v (.dat (.str ⟨cs.toArray⟩))), none, none, none, none, some (.v (.sl (ks.map fun k => .int (k : Nat)))), y, none, none, none]) ?_ ?_ ?_
    · exact ⟨a2, c2, [], [1, 2, 3, 4, 5, 6, 7, 8], none, g1, by omega, rfl, List.Perm.refl _, rfl, .inl rfl, rfl⟩
    · rintro i b' acc σ N hb' ⟨a3, c3, ps, ks, y, k1, k2, k3, k4, rfl, hy, rfl⟩ hN
      obtain ⟨rfl, hi⟩ := rangeD_get hb'
      have hi : i < many := by simpa using hi
      have hlen : ps.length + ks.length = 8 := by
        have := k4.length_eq
        rw [List.length_append] at this
        exact this
      rcases hy with rfl | ⟨m0, rfl⟩ <;>
      · refine hd _ _ _ _ _ _ ?_ ?_ hb ⟨k1, by omega⟩ (fun r2 a4 c4 l0 l1 l2 l3 => ?_)
        · rw [List.length_map]; omega
        · rw [List.length_map]; omega
        · rw [List.length_map] at l1
          obtain ⟨j, rfl⟩ := Int.eq_ofNat_of_zero_le l0
          have hj : j < ks.length := by omega
          refine Exists.intro j (Exists.intro (.int (ks[j] : Nat)) (And.intro (ixN_nat (by rw [List.length_map]; exact hj)) (And.intro (by simp [hj]) ?_)))
          rw [erase_map]
          refine hN [.dat (.str (cutStr ⟨cs.toArray⟩ none (some ((ks[j] : Nat) : Int))))] _ ⟨a4, c4, ps ++ [ks[j]], ks.eraseIdx j, _, l2, by omega, by simp [k3], ?_, ?_, .inr ⟨_, rfl⟩, rfl⟩
          · rw [List.append_assoc]
            exact (List.Perm.append_left ps (erase_perm hj)).trans k4
          · rw [cutStr_take, List.map_append, List.map_append]
            rfl
    · rintro acc σ ⟨a3, c3, ps, ks, y, k1, k2, k3, k4, rfl, hy, rfl⟩
      have e3 : (rangeD 0 (many : Int).toNat).length = many := by rw [QL.rangeD_len]; simp
      rw [e3] at k2 k3
      refine ⟨[some (.v (sack a3 b c3)), some (.v (.dat (.int many))), some (.v (.dat (.str abc))), some (.v (.dat (.int r))), some (.v (.sl [])), some (.v (.sl (menu.map .str))), some (.v (.dat (.str ⟨cs.toArray⟩))), none, none, none, none, some (.v (.sl (ks.map fun k => .int (k : Nat)))), none, none, none, none],
        fun K' k => (by rcases hy with rfl | ⟨m0, rfl⟩ <;> exact k), ?_⟩
      have in8 : ∀ k ∈ ps, 1 ≤ k ∧ k ≤ 8 := fun k hk => by
        have := k4.subset (List.mem_append_left ks hk)
        simp at this
        omega
      have fin := hK (ps.map fun k => (⟨(cs.take k).toArray⟩ : Str)) a3 c3 (by rw [List.length_map]; exact k3) (fun t ht => by
        obtain ⟨k, hk, rfl⟩ := List.mem_map.mp ht
        have := in8 k hk
        exact Nm_of (fun z hz => g4 z (List.mem_of_mem_take hz)) (by simp; omega) (by simp; omega)) (by
        refine nodup_on (fun x hx y hy e => ?_) (List.nodup_append.mp (k4.nodup_iff.mpr (by decide))).1
        have h1 := in8 x hx
        have h2 := in8 y hy
        have e := congrArg (fun s : Str => s.cps.size) e
        simp at e
        omega) k1 (by omega)
      rw [← mkL_strs] at fin
      exact fin
  -- word by word
  refine And.intro (smallN (by omega)) ?_
  refine forD_ind _ (fun i σ => ∃ (a c : Int) (fs : List Str) (y12 y13 : Option SV), 0 ≤ c ∧ c ≤ c2 + 9 * i ∧ fs.length = i ∧ (∀ t ∈ fs, Nm t) ∧ fs.Nodup ∧ TwoV y12 y13 ∧
    σ = [some (.v (sack a b c)), some (.v (.dat (.int many))), some (.v (.dat (.str abc))), some (.v (.dat (.int r))), some (.v (.sl (fs.map .str))), some (.v (.sl (menu.map .str))), some (.v (.dat (.str ⟨cs.toArray⟩))), none, none, none, none, none, y12, y13, none, none]) ?_ ?_ ?_
  · exact ⟨a2, c2, [], none, none, g1, by omega, rfl, (fun _ h => by cases h), by simp, .inl ⟨rfl, rfl⟩, rfl⟩
  · rintro i b' σ N hb' ⟨a3, c3, fs, y12, y13, k1, k2, k3, k4, k5, hy, rfl⟩ hN
    obtain ⟨rfl, hi⟩ := rangeD_get hb'
    have hi : i < many := by simpa using hi
    have app : ∀ (a' c' : Int) (w : Str), 0 ≤ c' → c' ≤ c3 + 9 → Nm w → w ∉ fs → N [some (.v (sack a' b c')), some (.v (.dat (.int many))), some (.v (.dat (.str abc))), some (.v (.dat (.int r))), some (.v (.sl (fs.map .str ++ [.str w]))), some (.v (.sl (menu.map .str))), some (.v (.dat (.str ⟨cs.toArray⟩))), none, none, none, none, none, some (.v (.dat (.int (0 + (i : Int))))), some (.v (.dat (.str w))), none, none] := fun a' c' w q1 q2 q3 q4 => by
      refine hN _ ⟨a', c', fs ++ [w], _, _, q1, by omega, by simp [k3], fun t ht => ?_, ?_, .inr ⟨_, _, rfl, rfl⟩, by rw [List.map_append]; rfl⟩
      · rcases List.mem_append.mp ht with ht | ht
        · exact k4 t ht
        · rw [List.mem_singleton.mp ht]; exact q3
      · refine List.nodup_append.mpr ⟨k5, by simp, fun x hx y hy e => ?_⟩
        rw [List.mem_singleton.mp hy] at e
        exact q4 (e ▸ hx)
    rcases hy with ⟨rfl, rfl⟩ | ⟨m0, m1, rfl, rfl⟩
    · refine hd _ _ _ _ _ _ (by decide) (by decide) hb ⟨k1, by omega⟩ (fun r8 a4 c4 l0 l1 l2 l3 => ?_)
      obtain ⟨z, rfl⟩ := Int.eq_ofNat_of_zero_le l0
      refine And.intro (by unfold smallI; omega) ?_
      have ez : ((1 : Int) + (z : Int)).toNat = z + 1 := by omega
      have er : (rangeD 0 ((1 : Int) + (z : Int)).toNat).length = z + 1 := by rw [QL.rangeD_len, ez]
      refine compW_dat (fun i' acc σ => ∃ (a c : Int) (ws : List Nat) (y : Option SV), 0 ≤ c ∧ c ≤ c4 + i' ∧ ws.length = i' ∧ Lo ws ∧ acc = ws.map (fun t => .dat (.str (sg t))) ∧ OneV y ∧
        σ = [some (.v (sack a b c)), some (.v (.dat (.int many))), some (.v (.dat (.str abc))), some (.v (.dat (.int r))), some (.v (.sl (fs.map .str))), some (.v (.sl (menu.map .str))), some (.v (.dat (.str ⟨cs.toArray⟩))), none, none, none, none, none, some (.v (.dat (.int (0 + (i : Int))))), none, y, none]) ?_ ?_ ?_
      · exact ⟨a4, c4, [], none, l2, by omega, rfl, (fun _ h => by cases h), rfl, .inl rfl, rfl⟩
      · rintro i' b'' acc σ N' hb'' ⟨a5, c5, ws, y, n1, n2, n3, n4, rfl, hy, rfl⟩ hN'
        obtain ⟨rfl, hi'⟩ := rangeD_get hb''
        have hi' : i' < z + 1 := by omega
        rcases hy with rfl | ⟨m2, rfl⟩ <;>
        · refine hd _ _ _ _ _ _ (by decide) (by decide) hb ⟨n1, by omega⟩ (fun r2 a6 c6 o0 o1 o2 o3 => ?_)
          refine Exists.intro _ (And.intro (abc_at o0 o1) ?_)
          refine hN' [.dat (.str (sg (97 + r2.toNat)))] _ ⟨a6, c6, ws ++ [97 + r2.toNat], _, o2, by omega, by simp [n3], ?_, by simp, .inr ⟨_, rfl⟩, rfl⟩
          intro q hq
          rcases List.mem_append.mp hq with hq | hq
          · exact n4 q hq
          · have : q = 97 + r2.toNat := by simpa using hq
            omega
      · rintro acc σ ⟨a5, c5, ws, y, n1, n2, n3, n4, rfl, hy, rfl⟩
        rw [er] at n2 n3
        refine ⟨[some (.v (sack a5 b c5)), some (.v (.dat (.int many))), some (.v (.dat (.str abc))), some (.v (.dat (.int r))), some (.v (.sl (fs.map .str))), some (.v (.sl (menu.map .str))), some (.v (.dat (.str ⟨cs.toArray⟩))), none, none, none, none, none, some (.v (.dat (.int (0 + (i : Int))))), none, none, none],
          fun K' k => (by rcases hy with rfl | ⟨m2, rfl⟩ <;> exact k), ?_⟩
        show settleW (mkL (ws.map fun t => .dat (.str (sg t)))) _
        rw [mkL_sg]
        refine Exists.intro (ws.map sg) (And.intro (strs_sg ws) (And.intro (sum_sg ws (by omega)) ?_))
        rw [join_sg]
        have nmw : Nm ⟨ws.toArray⟩ := Nm_of n4 (by omega) (by omega)
        refine And.intro rfl (And.intro (ok_strs fs) ?_)
        refine cond_split (fun e4 => ?_) (fun e4 => ?_)
        · refine letter_run (L := abc) abc_list (by omega) (fun ch o1 o2 => ?_)
          refine And.intro (show (fs.map PyData.str).length < 16777216 by rw [List.length_map]; omega) ?_
          exact app a5 c5 (sg ch) n1 (by omega) ⟨Nat.le_refl 1, (show 1 ≤ 8 by decide), fun q hq => by
            have : q = ch := by simpa using hq
            omega⟩ o2
        · have e4 : ((fs.map PyData.str).any fun z => PyData.eqv z (.str ⟨ws.toArray⟩)) = false := e4
          rw [any_str] at e4
          refine And.intro (show (fs.map PyData.str).length < 16777216 by rw [List.length_map]; omega) ?_
          exact app a5 c5 ⟨ws.toArray⟩ n1 (by omega) nmw (by simpa using e4)
    · refine hd _ _ _ _ _ _ (by decide) (by decide) hb ⟨k1, by omega⟩ (fun r8 a4 c4 l0 l1 l2 l3 => ?_)
      obtain ⟨z, rfl⟩ := Int.eq_ofNat_of_zero_le l0
      refine And.intro (by unfold smallI; omega) ?_
      have ez : ((1 : Int) + (z : Int)).toNat = z + 1 := by omega
      have er : (rangeD 0 ((1 : Int) + (z : Int)).toNat).length = z + 1 := by rw [QL.rangeD_len, ez]
      refine compW_dat (fun i' acc σ => ∃ (a c : Int) (ws : List Nat) (y : Option SV), 0 ≤ c ∧ c ≤ c4 + i' ∧ ws.length = i' ∧ Lo ws ∧ acc = ws.map (fun t => .dat (.str (sg t))) ∧ OneV y ∧
        σ = [some (.v (sack a b c)), some (.v (.dat (.int many))), some (.v (.dat (.str abc))), some (.v (.dat (.int r))), some (.v (.sl (fs.map .str))), some (.v (.sl (menu.map .str))), some (.v (.dat (.str ⟨cs.toArray⟩))), none, none, none, none, none, some (.v (.dat (.int (0 + (i : Int))))), some (.v m1), y, none]) ?_ ?_ ?_
      · exact ⟨a4, c4, [], none, l2, by omega, rfl, (fun _ h => by cases h), rfl, .inl rfl, rfl⟩
      · rintro i' b'' acc σ N' hb'' ⟨a5, c5, ws, y, n1, n2, n3, n4, rfl, hy, rfl⟩ hN'
        obtain ⟨rfl, hi'⟩ := rangeD_get hb''
        have hi' : i' < z + 1 := by omega
        rcases hy with rfl | ⟨m2, rfl⟩ <;>
        · refine hd _ _ _ _ _ _ (by decide) (by decide) hb ⟨n1, by omega⟩ (fun r2 a6 c6 o0 o1 o2 o3 => ?_)
          refine Exists.intro _ (And.intro (abc_at o0 o1) ?_)
          refine hN' [.dat (.str (sg (97 + r2.toNat)))] _ ⟨a6, c6, ws ++ [97 + r2.toNat], _, o2, by omega, by simp [n3], ?_, by simp, .inr ⟨_, rfl⟩, rfl⟩
          intro q hq
          rcases List.mem_append.mp hq with hq | hq
          · exact n4 q hq
          · have : q = 97 + r2.toNat := by simpa using hq
            omega
      · rintro acc σ ⟨a5, c5, ws, y, n1, n2, n3, n4, rfl, hy, rfl⟩
        rw [er] at n2 n3
        refine ⟨[some (.v (sack a5 b c5)), some (.v (.dat (.int many))), some (.v (.dat (.str abc))), some (.v (.dat (.int r))), some (.v (.sl (fs.map .str))), some (.v (.sl (menu.map .str))), some (.v (.dat (.str ⟨cs.toArray⟩))), none, none, none, none, none, some (.v (.dat (.int (0 + (i : Int))))), some (.v m1), none, none],
          fun K' k => (by rcases hy with rfl | ⟨m2, rfl⟩ <;> exact k), ?_⟩
        show settleW (mkL (ws.map fun t => .dat (.str (sg t)))) _
        rw [mkL_sg]
        refine Exists.intro (ws.map sg) (And.intro (strs_sg ws) (And.intro (sum_sg ws (by omega)) ?_))
        rw [join_sg]
        have nmw : Nm ⟨ws.toArray⟩ := Nm_of n4 (by omega) (by omega)
        refine And.intro rfl (And.intro (ok_strs fs) ?_)
        refine cond_split (fun e4 => ?_) (fun e4 => ?_)
        · refine letter_run (L := abc) abc_list (by omega) (fun ch o1 o2 => ?_)
          refine And.intro (show (fs.map PyData.str).length < 16777216 by rw [List.length_map]; omega) ?_
          exact app a5 c5 (sg ch) n1 (by omega) ⟨Nat.le_refl 1, (show 1 ≤ 8 by decide), fun q hq => by
            have : q = ch := by simpa using hq
            omega⟩ o2
        · have e4 : ((fs.map PyData.str).any fun z => PyData.eqv z (.str ⟨ws.toArray⟩)) = false := e4
          rw [any_str] at e4
          refine And.intro (show (fs.map PyData.str).length < 16777216 by rw [List.length_map]; omega) ?_
          exact app a5 c5 ⟨ws.toArray⟩ n1 (by omega) nmw (by simpa using e4)
  · rintro σ ⟨a3, c3, fs, y12, y13, k1, k2, k3, k4, k5, hy, rfl⟩
    have e3 : (rangeD 0 (many : Int).toNat).length = many := by rw [QL.rangeD_len]; simp
    rw [e3] at k2 k3
    have fin := hK fs a3 c3 k3 k4 k5 k1 (by omega)
    rcases hy with ⟨rfl, rfl⟩ | ⟨m0, m1, rfl, rfl⟩ <;> exact fin
theorem titles_ok {n : Nat} {a b c : Int} {many : Nat} {K : CK} {X : CX} (hm : many ≤ 14) (hb : 0 ≤ b ∧ b < 2 ^ 80) (hc : 0 ≤ c ∧ c < 2 ^ 39)
    (hK : ∀ (ts : List Str) a' c', ts.length = many → (∀ t ∈ ts, Nm t) → ts.Nodup → 0 ≤ c' → c' ≤ c + 200 → K (.v (.sl (ts.map .str))) [sack a' b c', .dat (.int many)]) :
    callW Pg (n + 2) 52 [sack a b c, .dat (.int many)] K X := call_of (fn := ir__law_some_titles) rfl (titles_run (draw_S n) hm hb hc hK)
end K02
end QL
end
section
set_option linter.all false
set_option maxRecDepth 100000
set_option maxHeartbeats 1000000
namespace QL
namespace K02
open PySem PySem.Spec PyProof.Rows L2

/-- a rule of a column -/
structure Rl where
  col : Str
  form : Str
  src : List Str
  held : Str
def Rl.d (r : Rl) : D := .tuple [.str r.col, .str r.form, .list (r.src.map .str), .str r.held]
abbrev ways : List Str := [Str.ofString "read", Str.ofString "follows", Str.ofString "stays"]
/-- valid at its place: names ahead of it are its sources -/
structure VR (ts : List Str) (k : Nat) (r : Rl) : Prop where
  col : ts[k]? = some r.col
  form : Nm r.form
  src : ∀ x ∈ r.src, x ∈ ts.take k
  nd : r.src.Nodup
  ln : r.src.length ≤ 8
  held : r.held ∈ ways
abbrev E0 (s sz : M) (cnt many : Nat) (ts ws : List Str) (fd : M) (t7 t8 t9 t10 t11 t12 t13 t14 : Option SV) : QL.Env :=
  [some (.v s), some (.v sz), some (.v (.dat (.int cnt))), some (.v (.dat (.int many))), some (.v (.sl (ts.map .str))), some (.v (.sl (ws.map .str))), some (.v fd), t7, t8, t9, t10, t11, t12, t13, t14]
abbrev szs (s0 s1 s2 s3 : Int) : M := .dat (.tuple [.int s0, .int s1, .int s2, .int s3])
abbrev sv (m : M) : Option SV := some (.v m)
abbrev iM (k : Int) : M := .dat (.int k)
section
variable {Γ : Ctx} {D : Post} {a b c s0 s1 s2 s3 : Int} {cnt many : Nat} {ts ws : List Str} {fd m7 m8 : M}
theorem src_run (hd : DrawS Γ.call) {left : List Str} {rank : Nat} {t12 t13 t14 : Option SV} (h12 : OneV t12) (h13 : OneV t13) (h14 : OneV t14) (hb : 0 ≤ b ∧ b < 2 ^ 80) (hc : 0 ≤ c ∧ c < 2 ^ 39) (hs : 0 ≤ s3 ∧ s3 ≤ 6) (hr : rank = left.length) (hr2 : rank ≤ 100)
    (h : ∀ (a' c' : Int) (src lf : List Str) (y12 : Option SV), 0 ≤ c' → c' ≤ c + 10 → (src ++ lf).Perm left → src.length ≤ 7 → OneV y12 → D.nx (E0 (sack a' b c') (szs s0 s1 s2 s3) cnt many ts ws fd (sv m7) (sv m8) (sv (iM rank)) (sv (.sl (lf.map .str))) (sv (.sl (src.map .str))) y12 t13 t14)) :
    exS Γ false (.for (.n 12) (.range (.cons false (.prim .min2 (.cons false (.x 9) (.cons false (.call 42 (.cons false (.x 0) (.cons false (.bin .add (.ix (.x 1) (.c (.int 3))) (.c (.int 1))) .nil)) []) .nil))) .nil))
      (.cons (.ex (.bm (.x 11) .append (.cons false (.bm (.x 10) .pop (.cons false (.call 42 (.cons false (.x 0) (.cons false (.prim .len (.cons false (.x 10) .nil)) .nil)) []) .nil)) .nil))) .nil))
      (E0 (sack a b c) (szs s0 s1 s2 s3) cnt many ts ws fd (sv m7) (sv m8) (sv (iM rank)) (sv (.sl (left.map .str))) (sv (.sl [])) t12 t13 t14) D := by
  have main : ∀ a1 c1 (r : Int), 0 ≤ r → r < s3 + 1 → 0 ≤ c1 → c1 ≤ c + 1 → forD (.n 12) (exSs Γ false (.cons (.ex (.bm (.x 11) .append (.cons false (.bm (.x 10) .pop (.cons false (.call 42 (.cons false (.x 0) (.cons false (.prim .len (.cons false (.x 10) .nil)) .nil)) []) .nil)) .nil))) .nil)) (rangeD 0 (if r < (rank : Int) then r else (rank : Int)).toNat)
      (E0 (sack a1 b c1) (szs s0 s1 s2 s3) cnt many ts ws fd (sv m7) (sv m8) (sv (iM rank)) (sv (.sl (left.map .str))) (sv (.sl [])) t12 t13 t14) D := fun a1 c1 r g0 g1 g2 g3 => by
    obtain ⟨q, rfl⟩ := Int.eq_ofNat_of_zero_le g0
    have ek : (if (q : Int) < (rank : Int) then (q : Int) else (rank : Int)).toNat = min q rank := by
      by_cases z : q < rank
      · rw [if_pos (by omega)]; omega
      · rw [if_neg (by omega)]; omega
    rw [ek]
    refine forD_ind _ (fun i σ => ∃ (a c : Int) (src lf : List Str) (y12 : Option SV), 0 ≤ c ∧ c ≤ c1 + i ∧ src.length = i ∧ (src ++ lf).Perm left ∧ OneV y12 ∧ σ = E0 (sack a b c) (szs s0 s1 s2 s3) cnt many ts ws fd (sv m7) (sv m8) (sv (iM rank)) (sv (.sl (lf.map .str))) (sv (.sl (src.map .str))) y12 t13 t14) ?_ ?_ ?_
    · exact ⟨a1, c1, [], left, t12, g2, by omega, rfl, .refl _, h12, rfl⟩
    · rintro i b' σ N hb' ⟨a2, c2, src, lf, y12, k1, k2, k3, k4, k5, rfl⟩ hN
      obtain ⟨rfl, hi⟩ := rangeD_get hb'
      have hl : src.length + lf.length = rank := by
        have := k4.length_eq
        rw [List.length_append] at this
        omega
      rcases k5 with rfl | ⟨m12, rfl⟩ <;> rcases h13 with rfl | ⟨m13, rfl⟩ <;> rcases h14 with rfl | ⟨m14, rfl⟩ <;>
      · refine hd _ _ _ _ _ _ ?_ ?_ hb ⟨k1, by omega⟩ (fun r2 a3 c3 l0 l1 l2 l3 => ?_)
        · rw [List.length_map]; omega
        · rw [List.length_map]; omega
        · rw [List.length_map] at l1
          obtain ⟨j, rfl⟩ := Int.eq_ofNat_of_zero_le l0
          have hj : j < lf.length := by omega
          refine Exists.intro j (Exists.intro (.str lf[j]) (And.intro (ixN_nat (by rw [List.length_map]; exact hj)) (And.intro (by simp [hj]) ?_)))
          rw [erase_map]
          refine And.intro (show (src.map PyData.str).length < 16777216 by rw [List.length_map]; omega) ?_
          refine hN _ ⟨a3, c3, src ++ [lf[j]], lf.eraseIdx j, _, l2, by omega, by simp [k3], ?_, .inr ⟨_, rfl⟩, by rw [List.map_append]; rfl⟩
          rw [List.append_assoc]
          exact (List.Perm.append_left src (erase_perm hj)).trans k4
    · rintro σ ⟨a2, c2, src, lf, y12, k1, k2, k3, k4, k5, rfl⟩
      rw [QL.rangeD_len] at k2 k3
      exact h _ _ _ _ _ k1 (by omega) k4 (by omega) k5
  have sm : ∀ r : Int, 0 ≤ r → r < s3 + 1 → smallI (if r < (rank : Int) then r else (rank : Int)) ∧ (if r < (rank : Int) then r else (rank : Int)) ≤ 16777216 := fun r g0 g1 => by
    unfold smallI
    split <;> omega
  rcases h12 with rfl | ⟨m12, rfl⟩ <;> rcases h13 with rfl | ⟨m13, rfl⟩ <;> rcases h14 with rfl | ⟨m14, rfl⟩ <;>
  · refine Exists.intro _ (And.intro rfl ?_)
    refine hd _ _ _ _ _ _ (by omega) (by omega) hb ⟨hc.1, by omega⟩ (fun r a1 c1 g0 g1 g2 g3 => ?_)
    exact And.intro (sm r g0 g1) (main a1 c1 r g0 g1 g2 g3)
theorem par_run {t10 t11 t12 t13 t14 : Option SV} {rank : Nat} (hX : (OneV t10 ∧ OneV t11) ∧ OneV t12 ∧ OneV t13 ∧ OneV t14)
    (h : D.nx (E0 (sack a b c) (szs s0 s1 s2 s3) cnt many ts ws fd (sv m7) (sv m8) (sv (iM rank)) (sv (.sl ((ts.take rank).map .str))) (sv (.sl [])) t12 t13 t14)) :
    exS Γ false (.par [(.n 10), (.n 11)] (.cons false (.prim .lst (.cons false (.sl (.x 4) .none (.some (.x 9))) .nil)) (.cons false (.lst .nil) .nil))) (E0 (sack a b c) (szs s0 s1 s2 s3) cnt many ts ws fd (sv m7) (sv m8) (sv (iM rank)) t10 t11 t12 t13 t14) D := by
  obtain ⟨⟨h10, h11⟩, h12, h13, h14⟩ := hX
  have e : cut (ts.map PyData.str) none (some (rank : Int)) = (ts.take rank).map .str := by rw [cut_take, List.map_take]
  rw [← e] at h
  rcases h10 with rfl | ⟨m10, rfl⟩ <;> rcases h11 with rfl | ⟨m11, rfl⟩ <;> rcases h12 with rfl | ⟨m12, rfl⟩ <;> rcases h13 with rfl | ⟨m13, rfl⟩ <;> rcases h14 with rfl | ⟨m14, rfl⟩ <;> exact h
theorem dep_rl (r : Rl) : dep r.d = 2 := by
  show max 0 (max 0 (max (depAll (r.src.map PyData.str) + 1) (max 0 0))) + 1 = 2
  rw [dep_str]
  rfl
theorem dep_rls : ∀ rs : List Rl, depAll (rs.map Rl.d) ≤ 2
  | [] => by decide
  | r :: rs => by
    rw [List.map_cons]
    unfold depAll
    rw [dep_rl]
    exact Nat.max_le.mpr ⟨Nat.le_refl 2, dep_rls rs⟩
theorem ok_rls (rs : List Rl) : okD (.list (rs.map Rl.d)) = true := by
  unfold okD
  have := dep_rls rs
  exact Nat.ble_eq_true_of_le (by show depAll (rs.map Rl.d) + 1 ≤ 64; omega)
theorem atI_last {α : Type} (l : List α) (x : α) : atI (l ++ [x]) (-1) = some x := by
  have e : ixN (l ++ [x]).length (-1) = some l.length := by
    unfold ixN
    rw [if_neg (by decide), if_pos (by simp; omega)]
    simp
    omega
  unfold atI
  rw [e]
  simp
theorem if_run (hd : DrawS Γ.call) {rs : List Rl} {rank : Nat} {m10 : M} {src : List Str} {t12 t13 t14 : Option SV} (h12 : OneV t12) (h13 : OneV t13) (h14 : OneV t14) (hb : 0 ≤ b ∧ b < 2 ^ 80) (hc : 0 ≤ c ∧ c < 2 ^ 39) (hrs : rs = [] ∨ ∃ rs' r p, rs = rs' ++ [r] ∧ rank = p + 1 ∧ ts[p]? = some r.col) (hl : src.length ≤ 100) (hl2 : ∀ r ∈ rs, r.src.length ≤ 100)
    (hA : ∀ a' c', 0 ≤ c' → c' ≤ c + 1 → D.nx (E0 (sack a' b c') (szs s0 s1 s2 s3) cnt many ts ws fd (sv m7) (sv (.sl (rs.map Rl.d))) (sv (iM rank)) (sv m10) (sv (.sl (src.map .str))) t12 t13 t14))
    (hB : ∀ a' c' rs' r, rs = rs' ++ [r] → 0 ≤ c' → c' ≤ c + 1 → D.nx (E0 (sack a' b c') (szs s0 s1 s2 s3) cnt many ts ws fd (sv m7) (sv (.sl (rs.map Rl.d))) (sv (iM rank)) (sv m10) (sv (.sl ((r.col :: r.src.take 1).map .str))) t12 t13 t14)) :
    exS Γ false (.ifs (.and (.cmp .ne (.x 8) (.lst .nil)) (.cmp .eq (.call 42 (.cons false (.x 0) (.cons false (.c (.int 4)) .nil)) []) (.c (.int 0))))
 (.cons (.asg (.n 11) (.bin .add (.lst (.cons false (.ix (.x 4) (.bin .sub (.x 9) (.c (.int 1)))) .nil)) (.sl (.ix (.ix (.x 8) (.neg (.c (.int 1)))) (.c (.int 2))) .none (.some (.c (.int 1))))))
 .nil)
 .nil) (E0 (sack a b c) (szs s0 s1 s2 s3) cnt many ts ws fd (sv m7) (sv (.sl (rs.map Rl.d))) (sv (iM rank)) (sv m10) (sv (.sl (src.map .str))) t12 t13 t14) D := by
  refine And.intro (ok_rls rs) (And.intro rfl ?_)
  rcases hrs with rfl | ⟨rs', r, p, rfl, rfl, hp⟩
  · exact hA a c hc.1 (by omega)
  · have ne : ((PyData.list ((rs' ++ [r]).map Rl.d)).eqv (.list [])) = false := by cases rs' <;> rfl
    refine cond_yes (by show (!_) = true; rw [ne]; rfl) ?_
    have last : atI ((rs' ++ [r]).map Rl.d) (-1) = some r.d := by rw [List.map_append]; exact atI_last _ _
    have e : cut (r.src.map PyData.str) none (some (1 : Int)) = (r.src.take 1).map .str := by
      rw [show (1 : Int) = ((1 : Nat) : Int) from rfl, cut_take, List.map_take]
    have hB := hB
    have ep : atI (ts.map PyData.str) (((p + 1 : Nat) : Int) - 1) = some (.str r.col) := by
      rw [show ((p + 1 : Nat) : Int) - 1 = (p : Int) by omega]
      exact atI_nat (by rw [List.getElem?_map, hp]; rfl)
    have hlen : [PyData.str r.col].length + (cut (r.src.map PyData.str) none (some (1 : Int))).length ≤ 16777216 := by
      rw [e, List.length_map, List.length_take]
      show 1 + _ ≤ _
      omega
    rcases h12 with rfl | ⟨m12, rfl⟩ <;> rcases h13 with rfl | ⟨m13, rfl⟩ <;> rcases h14 with rfl | ⟨m14, rfl⟩ <;>
    · refine hd _ _ _ _ _ _ (by decide) (by decide) hb ⟨hc.1, by omega⟩ (fun r2 a3 c3 l0 l1 l2 l3 => ?_)
      refine And.intro rfl (And.intro rfl ?_)
      refine cond_split (fun e1 => ?_) (fun e1 => ?_)
      · refine Exists.intro _ (And.intro ep ?_)
        refine Exists.intro _ (And.intro last ?_)
        refine Exists.intro _ (And.intro (show atI [PyData.str r.col, .str r.form, .list (r.src.map .str), .str r.held] ((2 : Nat) : Int) = some (.list (r.src.map .str)) from atI_nat rfl) ?_)
        refine And.intro hlen ?_
        have := hB a3 c3 rs' r rfl l2 l3
        rw [List.map_cons, ← e] at this
        exact this
      · exact hA a3 c3 l2 l3
theorem ways_at {r : Int} (h0 : 0 ≤ r) (h1 : r < 3) : ∃ w, atI [PyData.str (Str.ofString "read"), .str (Str.ofString "follows"), .str (Str.ofString "stays")] r = some (.str w) ∧ w ∈ ways := by
  obtain ⟨k, rfl⟩ := Int.eq_ofNat_of_zero_le h0
  have : k < 3 := by omega
  match k, this with
  | 0, _ => exact ⟨_, rfl, by simp⟩
  | 1, _ => exact ⟨_, rfl, by simp⟩
  | 2, _ => exact ⟨_, rfl, by simp⟩
theorem app_run (hd : DrawS Γ.call) {rs : List Rl} {rank : Nat} {m10 : M} {src : List Str} {t12 t13 t14 : Option SV} {col : Str} (h12 : OneV t12) (h13 : OneV t13) (h14 : OneV t14) (hb : 0 ≤ b ∧ b < 2 ^ 80) (hc : 0 ≤ c ∧ c < 2 ^ 39) (hcol : ts[rank]? = some col) (hw : 0 < ws.length ∧ ws.length ≤ 100) (hl : rs.length ≤ 100)
    (h : ∀ (a' c' : Int) (w hld : Str) (m11 m13 : M), 0 ≤ c' → c' ≤ c + 2 → w ∈ ws → hld ∈ ways → D.nx (E0 (sack a' b c') (szs s0 s1 s2 s3) cnt many ts ws fd (sv m7) (sv (.sl ((rs ++ [(⟨col, w, src, hld⟩ : Rl)]).map Rl.d))) (sv (iM rank)) (sv m10) (sv m11) t12 (sv m13) t14)) :
    exSs Γ false (.cons (.asg (.n 13) (.ix (.lst (.cons false (.c (.str (Str.ofString "read"))) (.cons false (.c (.str (Str.ofString "follows"))) (.cons false (.c (.str (Str.ofString "stays"))) .nil)))) (.call 42 (.cons false (.x 0) (.cons false (.c (.int 3)) .nil)) [])))
 (.cons (.ex (.bm (.x 8) .append (.cons false (.tup (.cons false (.ix (.x 4) (.x 9)) (.cons false (.ix (.x 5) (.call 42 (.cons false (.x 0) (.cons false (.prim .len (.cons false (.x 5) .nil)) .nil)) [])) (.cons false (.x 11) (.cons false (.x 13) .nil))))) .nil)))
 .nil)) (E0 (sack a b c) (szs s0 s1 s2 s3) cnt many ts ws fd (sv m7) (sv (.sl (rs.map Rl.d))) (sv (iM rank)) (sv m10) (sv (.sl (src.map .str))) t12 t13 t14) D := by
  have ec : atI (ts.map PyData.str) (rank : Int) = some (.str col) := atI_nat (by rw [List.getElem?_map, hcol]; rfl)
  rcases h12 with rfl | ⟨m12, rfl⟩ <;> rcases h13 with rfl | ⟨m13, rfl⟩ <;> rcases h14 with rfl | ⟨m14, rfl⟩ <;>
  · refine hd _ _ _ _ _ _ (by decide) (by decide) hb ⟨hc.1, by omega⟩ (fun r2 a3 c3 l0 l1 l2 l3 => ?_)
    obtain ⟨hld, eh, hh⟩ := ways_at l0 l1
    refine Exists.intro _ (And.intro eh ?_)
    refine Exists.intro _ (And.intro ec ?_)
    refine hd _ _ _ _ _ _ (by rw [List.length_map]; omega) (by rw [List.length_map]; omega) hb ⟨l2, by omega⟩ (fun r4 a5 c5 k0 k1 k2 k3 => ?_)
    rw [List.length_map] at k1
    obtain ⟨j, rfl⟩ := Int.eq_ofNat_of_zero_le k0
    have hj : j < ws.length := by omega
    refine Exists.intro (.str ws[j]) (And.intro (atI_nat (by simp [hj])) ?_)
    refine And.intro (show (rs.map Rl.d).length < 16777216 by rw [List.length_map]; omega) ?_
    have := h a5 c5 ws[j] hld (.dat (.list (src.map .str))) (.dat (.str hld)) k2 (by omega) (List.getElem_mem hj) hh
    rw [List.map_append] at this
    exact this
/-- every slot is empty, or holds a value -/
def Pl : QL.Env → Prop
  | [] => True
  | s :: r => OneV s ∧ Pl r
theorem mapW_pl {f : Option SV → Option SV} (hn : f none = none) (hf : ∀ m, f (some (.v m)) = some (.v m)) : ∀ {σ : QL.Env} {K : QL.Env → Prop}, Pl σ → K σ → mapW f σ K
  | [], K, _, h => h
  | s :: r, K, hp, h => by
    have z : mapW f r fun r' => K (s :: r') := mapW_pl hn hf (K := fun r' => K (s :: r')) hp.2 h
    rcases hp.1 with rfl | ⟨m, rfl⟩
    · show forceW (f none) _
      rw [hn]
      exact z
    · show forceW (f (some (.v m))) _
      rw [hf]
      exact z
theorem mapW_clr {i : Nat} {σ : QL.Env} {K : QL.Env → Prop} (hp : Pl σ) (h : K σ) : mapW (clr i) σ K := mapW_pl rfl (fun _ => rfl) hp h
theorem mapW_clrB {i : Nat} {p : List Nat} {σ : QL.Env} {K : QL.Env → Prop} (hp : Pl σ) (h : K σ) : mapW (clrB i p) σ K := mapW_pl rfl (fun _ => rfl) hp h
theorem mapW_clrU {i : Nat} {p : List Nat} {σ : QL.Env} {K : QL.Env → Prop} (hp : Pl σ) (h : K σ) : mapW (clrU i p) σ K := mapW_pl rfl (fun _ => rfl) hp h
theorem E0_pl {s sz : M} {t7 t8 t9 t10 t11 t12 t13 t14 : Option SV} (h7 : OneV t7) (h8 : OneV t8) (h9 : OneV t9) (h10 : OneV t10) (h11 : OneV t11) (h12 : OneV t12) (h13 : OneV t13) (h14 : OneV t14) : Pl (E0 s sz cnt many ts ws fd t7 t8 t9 t10 t11 t12 t13 t14) :=
  ⟨.inr ⟨_, rfl⟩, .inr ⟨_, rfl⟩, .inr ⟨_, rfl⟩, .inr ⟨_, rfl⟩, .inr ⟨_, rfl⟩, .inr ⟨_, rfl⟩, .inr ⟨_, rfl⟩, h7, h8, h9, h10, h11, h12, h13, h14, trivial⟩
theorem bind9 {K : QL.Env → Prop} {k : Int} {t9 t10 t11 t12 t13 t14 : Option SV} (h9 : OneV t9) (h10 : OneV t10) (h11 : OneV t11) (h12 : OneV t12) (h13 : OneV t13) (h14 : OneV t14) (h : K (E0 (sack a b c) (szs s0 s1 s2 s3) cnt many ts ws fd (sv m7) (sv m8) (sv (iM k)) t10 t11 t12 t13 t14)) :
    bindBW (.n 9) (oneD (.int k)) (E0 (sack a b c) (szs s0 s1 s2 s3) cnt many ts ws fd (sv m7) (sv m8) t9 t10 t11 t12 t13 t14) K :=
  mapW_clr (E0_pl (.inr ⟨_, rfl⟩) (.inr ⟨_, rfl⟩) h9 h10 h11 h12 h13 h14) h
abbrev colS : Ss := (.cons (.par [(.n 10), (.n 11)] (.cons false (.prim .lst (.cons false (.sl (.x 4) .none (.some (.x 9))) .nil)) (.cons false (.lst .nil) .nil)))
 (.cons (.for (.n 12) (.range (.cons false (.prim .min2 (.cons false (.x 9) (.cons false (.call 42 (.cons false (.x 0) (.cons false (.bin .add (.ix (.x 1) (.c (.int 3))) (.c (.int 1))) .nil)) []) .nil))) .nil))
 (.cons (.ex (.bm (.x 11) .append (.cons false (.bm (.x 10) .pop (.cons false (.call 42 (.cons false (.x 0) (.cons false (.prim .len (.cons false (.x 10) .nil)) .nil)) []) .nil)) .nil)))
 .nil))
 (.cons (.ifs (.and (.cmp .ne (.x 8) (.lst .nil)) (.cmp .eq (.call 42 (.cons false (.x 0) (.cons false (.c (.int 4)) .nil)) []) (.c (.int 0))))
 (.cons (.asg (.n 11) (.bin .add (.lst (.cons false (.ix (.x 4) (.bin .sub (.x 9) (.c (.int 1)))) .nil)) (.sl (.ix (.ix (.x 8) (.neg (.c (.int 1)))) (.c (.int 2))) .none (.some (.c (.int 1))))))
 .nil)
 .nil)
 (.cons (.asg (.n 13) (.ix (.lst (.cons false (.c (.str (Str.ofString "read"))) (.cons false (.c (.str (Str.ofString "follows"))) (.cons false (.c (.str (Str.ofString "stays"))) .nil)))) (.call 42 (.cons false (.x 0) (.cons false (.c (.int 3)) .nil)) [])))
 (.cons (.ex (.bm (.x 8) .append (.cons false (.tup (.cons false (.ix (.x 4) (.x 9)) (.cons false (.ix (.x 5) (.call 42 (.cons false (.x 0) (.cons false (.prim .len (.cons false (.x 5) .nil)) .nil)) [])) (.cons false (.x 11) (.cons false (.x 13) .nil))))) .nil)))
 .nil)))))
/-- the rules of an edition, as far as they are made -/
structure VRs (ts : List Str) (cnt : Nat) (rs : List Rl) : Prop where
  at_ : ∀ i r, rs[i]? = some r → VR ts (cnt + i) r
theorem VRs.snoc {rs : List Rl} {r : Rl} (h : VRs ts cnt rs) (hr : VR ts (cnt + rs.length) r) : VRs ts cnt (rs ++ [r]) := ⟨fun i q e => by
  by_cases z : i < rs.length
  · exact h.at_ i q (by rw [List.getElem?_append_left z] at e; exact e)
  · rw [List.getElem?_append_right (by omega)] at e
    have : i = rs.length := by
      by_cases y : i - rs.length = 0
      · omega
      · rw [List.getElem?_eq_none (by simp; omega)] at e; cases e
    subst this
    rw [Nat.sub_self] at e
    cases e
    exact hr⟩
theorem take_mem {p q : Nat} {x : Str} (h : x ∈ ts.take p) (hpq : p ≤ q) : x ∈ ts.take q := by
  have : ts.take p = (ts.take q).take p := by rw [List.take_take, Nat.min_eq_left hpq]
  rw [this] at h
  exact List.mem_of_mem_take h
theorem nd_inj {α : Type} {l : List α} (h : l.Nodup) {i j : Nat} (hi : i < l.length) (hj : j < l.length) (e : l[i] = l[j]) : i = j := by
  have p := List.pairwise_iff_getElem.mp h
  by_cases z : i < j
  · exact (p i j hi hj z e).elim
  · by_cases y : j < i
    · exact (p j i hj hi y e.symm).elim
    · omega
theorem col_run (hd : DrawS Γ.call) {rs : List Rl} {t10 t11 t12 t13 t14 : Option SV} {col : Str} (h10 : OneV t10) (h11 : OneV t11) (h12 : OneV t12) (h13 : OneV t13) (h14 : OneV t14) (hb : 0 ≤ b ∧ b < 2 ^ 80) (hc : 0 ≤ c ∧ c < 2 ^ 38) (hs : 0 ≤ s3 ∧ s3 ≤ 6)
    (hts : ts.Nodup) (hlt : ts.length ≤ 20) (hcol : ts[cnt + rs.length]? = some col) (hv : VRs ts cnt rs) (hw : 0 < ws.length ∧ ws.length ≤ 100) (hwn : ∀ w ∈ ws, Nm w)
    (h : ∀ (a' c' : Int) (r : Rl) (m10 m11 m13 : M) (y12 : Option SV), 0 ≤ c' → c' ≤ c + 20 → VR ts (cnt + rs.length) r → OneV y12 → D.nx (E0 (sack a' b c') (szs s0 s1 s2 s3) cnt many ts ws fd (sv m7) (sv (.sl ((rs ++ [r]).map Rl.d))) (sv (iM ((cnt + rs.length : Nat) : Int))) (sv m10) (sv m11) y12 (sv m13) t14)) :
    exSs Γ false colS (E0 (sack a b c) (szs s0 s1 s2 s3) cnt many ts ws fd (sv m7) (sv (.sl (rs.map Rl.d))) (sv (iM ((cnt + rs.length : Nat) : Int))) t10 t11 t12 t13 t14) D := by
  have hk : cnt + rs.length < ts.length := (List.getElem?_eq_some_iff.mp hcol).1
  have nmT : ∀ r ∈ rs, r.src.length ≤ 100 := fun r hr => by
    obtain ⟨i, hi, e⟩ := List.mem_iff_getElem.mp hr
    have := (hv.at_ i r (by rw [List.getElem?_eq_getElem hi, e])).ln
    omega
  refine par_run ⟨⟨h10, h11⟩, h12, h13, h14⟩ ?_
  refine src_run hd h12 h13 h14 hb ⟨hc.1, by omega⟩ hs (by rw [List.length_take]; omega) (by omega) (fun a1 c1 src lf y12 g1 g2 g3 g4 hy => ?_)
  have sub : ∀ x ∈ src, x ∈ ts.take (cnt + rs.length) := fun x hx => g3.subset (List.mem_append_left _ hx)
  have nds : src.Nodup := (List.nodup_append.mp (g3.nodup_iff.mpr (hts.sublist (List.take_sublist _ _)))).1
  refine if_run hd hy h13 h14 hb ⟨g1, by omega⟩ ?_ (by omega) nmT (fun a2 c2 k1 k2 => ?_) (fun a2 c2 rs' r er k1 k2 => ?_)
  · rcases List.eq_nil_or_concat rs with e | ⟨rs', r, e⟩
    · exact .inl e
    · rw [List.concat_eq_append] at e
      subst e
      have v := hv.at_ rs'.length r (by simp)
      exact .inr ⟨rs', r, cnt + rs'.length, rfl, by simp; omega, v.col⟩
  · refine app_run hd hy h13 h14 hb ⟨k1, by omega⟩ hcol hw (by omega) (fun a3 c3 w hld m11 m13 l1 l2 l3 l4 => ?_)
    exact h a3 c3 ⟨col, w, src, hld⟩ _ m11 m13 y12 l1 (by omega) ⟨hcol, hwn w l3, sub, nds, by show src.length ≤ 8; omega, l4⟩ hy
  · subst er
    have v := hv.at_ rs'.length r (by simp)
    have ep : cnt + (rs' ++ [r]).length = cnt + rs'.length + 1 := by simp; omega
    refine app_run hd hy h13 h14 hb ⟨k1, by omega⟩ hcol hw (by omega) (fun a3 c3 w hld m11 m13 l1 l2 l3 l4 => ?_)
    refine h a3 c3 ⟨col, w, r.col :: r.src.take 1, hld⟩ _ m11 m13 y12 l1 (by omega) ⟨hcol, hwn w l3, fun x hx => ?_, ?_, ?_, l4⟩ hy
    · rw [ep]
      rcases List.mem_cons.mp hx with rfl | hx
      · have hp := (List.getElem?_eq_some_iff.mp v.col)
        obtain ⟨hp1, hp2⟩ := hp
        rw [List.take_succ]
        exact List.mem_append_right _ (by rw [v.col]; simp)
      · exact take_mem (v.src x (List.mem_of_mem_take hx)) (by omega)
    · refine List.nodup_cons.mpr ⟨fun hx => ?_, v.nd.sublist (List.take_sublist _ _)⟩
      have hx := v.src _ (List.mem_of_mem_take hx)
      obtain ⟨i, hi, e⟩ := List.mem_iff_getElem.mp hx
      rw [List.length_take] at hi
      rw [List.getElem_take] at e
      obtain ⟨hp1, hp2⟩ := List.getElem?_eq_some_iff.mp v.col
      have := nd_inj hts (by omega) hp1 (e.trans hp2.symm)
      omega
    · show (r.src.take 1).length + 1 ≤ 8
      rw [List.length_take]
      omega
end
end K02
end QL
end
section
set_option linter.all false
set_option autoImplicit false
set_option maxRecDepth 100000
set_option maxHeartbeats 200000
namespace QL
namespace K02
open PySem PySem.Spec PyProof.Rows L2

section
variable {Γ : Ctx} {D : Post} {a b c s0 s1 s2 s3 : Int} {cnt many : Nat} {ts ws : List Str} {fd m7 m8 : M}
def edD (rs : List Rl) : PyData := .list (rs.map Rl.d)
theorem dep_eds : ∀ es : List (List Rl), depAll (es.map edD) ≤ 3
  | [] => by decide
  | rs :: es => by
    have := dep_rls rs
    rw [List.map_cons]
    unfold depAll
    exact Nat.max_le.mpr ⟨(by show depAll (rs.map Rl.d) + 1 ≤ 3; omega), dep_eds es⟩
theorem ok_eds (es : List (List Rl)) : okD (.list (es.map edD)) = true := by
  unfold okD
  have := dep_eds es
  exact Nat.ble_eq_true_of_le (by show depAll (es.map edD) + 1 ≤ 64; omega)
abbrev F5 (t9 t10 t11 t12 t13 t14 : Option SV) : Prop := ((t9 = none ∧ t10 = none ∧ t11 = none ∧ t13 = none) ∨ ∃ m9 m10 m11 m13, t9 = sv m9 ∧ t10 = sv m10 ∧ t11 = sv m11 ∧ t13 = sv m13) ∧ OneV t12 ∧ OneV t14
theorem F5.one {t9 t10 t11 t12 t13 t14 : Option SV} (h : F5 t9 t10 t11 t12 t13 t14) : OneV t9 ∧ OneV t10 ∧ OneV t11 ∧ OneV t12 ∧ OneV t13 ∧ OneV t14 := by
  obtain ⟨⟨rfl, rfl, rfl, rfl⟩ | ⟨m9, m10, m11, m13, rfl, rfl, rfl, rfl⟩, h12, h14⟩ := h
  · exact ⟨.inl rfl, .inl rfl, .inl rfl, h12, .inl rfl, h14⟩
  · exact ⟨.inr ⟨_, rfl⟩, .inr ⟨_, rfl⟩, .inr ⟨_, rfl⟩, h12, .inr ⟨_, rfl⟩, h14⟩
/-- the columns of an edition -/
theorem cols_run (hd : DrawS Γ.call) {t9 t10 t11 t12 t13 t14 : Option SV} (h5 : F5 t9 t10 t11 t12 t13 t14) (hb : 0 ≤ b ∧ b < 2 ^ 80) (hc : 0 ≤ c ∧ c < 2 ^ 37) (hs : 0 ≤ s3 ∧ s3 ≤ 6)
    (hts : ts.Nodup) (hlt : ts.length ≤ 20) (hlen : ts.length = cnt + many) (hw : 0 < ws.length ∧ ws.length ≤ 100) (hwn : ∀ w ∈ ws, Nm w)
    (h : ∀ (a' c' : Int) (rs : List Rl) (t9 t10 t11 t12 t13 t14 : Option SV), 0 ≤ c' → c' ≤ c + 20 * many → rs.length = many → VRs ts cnt rs → F5 t9 t10 t11 t12 t13 t14 → D.nx (E0 (sack a' b c') (szs s0 s1 s2 s3) cnt many ts ws fd (sv m7) (sv (.sl (rs.map Rl.d))) t9 t10 t11 t12 t13 t14)) :
    exS Γ false (.for (.n 9) (.range (.cons false (.x 2) (.cons false (.bin .add (.x 2) (.x 3)) .nil))) colS) (E0 (sack a b c) (szs s0 s1 s2 s3) cnt many ts ws fd (sv m7) (sv (.sl [])) t9 t10 t11 t12 t13 t14) D := by
  refine And.intro (by unfold smallI; omega) ?_
  obtain ⟨cc, hcc⟩ : ∃ cc, cc = c := ⟨_, rfl⟩
  have en : ((cnt : Int) + (many : Int) - (cnt : Int)).toNat = many := by omega
  rw [en]
  refine forD_ind _ (fun i σ => ∃ (a c : Int) (rs : List Rl) (t9 t10 t11 t12 t13 t14 : Option SV), 0 ≤ c ∧ c ≤ cc + 20 * i ∧ rs.length = i ∧ VRs ts cnt rs ∧ F5 t9 t10 t11 t12 t13 t14 ∧ σ = E0 (sack a b c) (szs s0 s1 s2 s3) cnt many ts ws fd (sv m7) (sv (.sl (rs.map Rl.d))) t9 t10 t11 t12 t13 t14) ?_ ?_ ?_
  · exact ⟨a, c, [], t9, t10, t11, t12, t13, t14, hc.1, by omega, rfl, ⟨fun i r e => by simp at e⟩, h5, rfl⟩
  · rintro i b' σ N hb' ⟨a2, c2, rs, u9, u10, u11, u12, u13, u14, g1, g2, g3, g4, f5, rfl⟩ hN
    obtain ⟨f9, f10, f11, f12, f13, f14⟩ := f5.one
    obtain ⟨rfl, hi⟩ := rangeD_get hb'
    refine bind9 f9 f10 f11 f12 f13 f14 ?_
    have hk : cnt + rs.length < ts.length := by omega
    rw [show (cnt : Int) + (i : Int) = ((cnt + rs.length : Nat) : Int) by rw [g3]; simp]
    refine col_run hd f10 f11 f12 f13 f14 hb ⟨g1, by omega⟩ hs hts hlt (List.getElem?_eq_getElem hk) g4 hw hwn (fun a3 c3 r m10 m11 m13 y12 k1 k2 k3 k4 => ?_)
    exact hN _ ⟨a3, c3, rs ++ [r], _, _, _, _, _, _, k1, by omega, by simp [g3], g4.snoc k3, ⟨.inr ⟨_, _, _, _, rfl, rfl, rfl, rfl⟩, k4, f14⟩, rfl⟩
  · rintro σ ⟨a2, c2, rs, u9, u10, u11, u12, u13, u14, g1, g2, g3, g4, g5, rfl⟩
    rw [QL.rangeD_len] at g2 g3
    rw [hcc] at g2
    exact h a2 c2 rs _ _ _ _ _ _ g1 g2 g3 g4 g5
/-- an edition like the one ahead, but for a column -/
def mixed (ps rs : List Rl) (k : Nat) : List Rl := ps.take k ++ (rs.drop k).take 1 ++ ps.drop (k + 1)
theorem cut_map {α β : Type} (f : α → β) (l : List α) (x y : Option Int) : cut (l.map f) x y = (cut l x y).map f := by
  unfold cut
  rw [List.length_map, List.map_take, List.map_drop]
theorem mixed_cut (ps rs : List Rl) {k : Nat} (h : k < rs.length) : cut (ps.map Rl.d) none (some (k : Int)) ++ cut (rs.map Rl.d) (some (k : Int)) (some ((k : Int) + 1)) ++ cut (ps.map Rl.d) (some ((k : Int) + 1)) none = (mixed ps rs k).map Rl.d := by
  rw [show (k : Int) + 1 = ((k + 1 : Nat) : Int) by simp, cut_map, cut_map, cut_map, cut_take, cut_mid _ (by omega), cut_drop]
  unfold mixed
  simp only [List.map_append]
theorem mixed_len {ps rs : List Rl} {k : Nat} (h : k < rs.length) (e : ps.length = rs.length) : (mixed ps rs k).length = rs.length := by
  unfold mixed
  simp
  omega
theorem mixed_at {ps rs : List Rl} {k i : Nat} {r : Rl} (h : k < rs.length) (e : ps.length = rs.length) (q : (mixed ps rs k)[i]? = some r) : ps[i]? = some r ∨ rs[i]? = some r := by
  unfold mixed at q
  have l1 : (ps.take k).length = k := by rw [List.length_take]; omega
  have l2 : ((rs.drop k).take 1).length = 1 := by rw [List.length_take, List.length_drop]; omega
  rw [List.append_assoc] at q
  by_cases z : i < k
  · rw [List.getElem?_append_left (by omega), List.getElem?_take_of_lt z] at q
    exact .inl q
  · rw [List.getElem?_append_right (by omega), l1] at q
    by_cases y : i = k
    · subst y
      rw [Nat.sub_self, List.getElem?_append_left (by omega), List.getElem?_take_of_lt (by omega), List.getElem?_drop] at q
      exact .inr q
    · rw [List.getElem?_append_right (by omega), l2, List.getElem?_drop] at q
      rw [show k + 1 + (i - k - 1) = i by omega] at q
      exact .inl q
theorem mixed_vr {ps rs : List Rl} {k : Nat} (h : k < rs.length) (e : ps.length = rs.length) (v1 : VRs ts cnt ps) (v2 : VRs ts cnt rs) : VRs ts cnt (mixed ps rs k) :=
  ⟨fun i r q => (mixed_at h e q).elim (v1.at_ i r) (v2.at_ i r)⟩
abbrev Eds (ts : List Str) (cnt many : Nat) (es : List (List Rl)) : Prop := ∀ rs ∈ es, rs.length = many ∧ VRs ts cnt rs
theorem mix_run (hd : DrawS Γ.call) {es : List (List Rl)} {rs : List Rl} {t9 t10 t11 t12 t13 t14 : Option SV} (h5 : F5 t9 t10 t11 t12 t13 t14) (hb : 0 ≤ b ∧ b < 2 ^ 80) (hc : 0 ≤ c ∧ c < 2 ^ 37) (hm : many ≤ 20) (he : Eds ts cnt many es) (hr : rs.length = many) (hv : VRs ts cnt rs)
    (h : ∀ (a' c' : Int) (rs : List Rl) (t14 : Option SV), 0 ≤ c' → c' ≤ c + 2 → rs.length = many → VRs ts cnt rs → OneV t14 → D.nx (E0 (sack a' b c') (szs s0 s1 s2 s3) cnt many ts ws (.sl (es.map edD)) (sv m7) (sv (.sl (rs.map Rl.d))) t9 t10 t11 t12 t13 t14)) :
    exS Γ false (.ifs (.and (.cmp .ne (.x 6) (.lst .nil)) (.and (.cmp .gt (.x 3) (.c (.int 0))) (.cmp .eq (.call 42 (.cons false (.x 0) (.cons false (.c (.int 2)) .nil)) []) (.c (.int 0)))))
 (.cons (.asg (.n 14) (.call 42 (.cons false (.x 0) (.cons false (.x 3) .nil)) []))
 (.cons (.asg (.n 8) (.bin .add (.bin .add (.sl (.ix (.x 6) (.neg (.c (.int 1)))) .none (.some (.x 14))) (.sl (.x 8) (.some (.x 14)) (.some (.bin .add (.x 14) (.c (.int 1)))))) (.sl (.ix (.x 6) (.neg (.c (.int 1)))) (.some (.bin .add (.x 14) (.c (.int 1)))) .none)))
 .nil))
 .nil) (E0 (sack a b c) (szs s0 s1 s2 s3) cnt many ts ws (.sl (es.map edD)) (sv m7) (sv (.sl (rs.map Rl.d))) t9 t10 t11 t12 t13 t14) D := by
  obtain ⟨h0, h12, h14⟩ := h5
  refine And.intro (ok_eds es) (And.intro rfl ?_)
  rcases List.eq_nil_or_concat es with rfl | ⟨es', ps, e⟩
  · exact h a c rs t14 hc.1 (by omega) hr hv h14
  · rw [List.concat_eq_append] at e
    subst e
    have ne : ((PyData.list ((es' ++ [ps]).map edD)).eqv (.list [])) = false := by cases es' <;> rfl
    have last : atI ((es' ++ [ps]).map edD) (-1) = some (.list (ps.map Rl.d)) := by rw [List.map_append]; exact atI_last _ _
    obtain ⟨hpl, hpv⟩ := he ps (by simp)
    refine cond_yes (by show (!_) = true; rw [ne]; rfl) ?_
    refine cond_split (fun e1 => ?_) (fun e1 => ?_)
    · have hm0 : (0 : Int) < (many : Int) := of_decide_eq_true e1
      have lc : ∀ (l : List Rl) (x y : Option Int), l.length ≤ 20 → (cut (l.map Rl.d) x y).length ≤ 20 := fun l x y hl => by
        unfold cut
        rw [List.length_take, List.length_drop, List.length_map]
        omega
      rcases h0 with ⟨rfl, rfl, rfl, rfl⟩ | ⟨m9, m10, m11, m13, rfl, rfl, rfl, rfl⟩ <;> rcases h12 with rfl | ⟨m12, rfl⟩ <;> rcases h14 with rfl | ⟨m14, rfl⟩ <;>
      · refine hd _ _ _ _ _ _ (by decide) (by decide) hb ⟨hc.1, by omega⟩ (fun r2 a3 c3 l0 l1 l2 l3 => ?_)
        refine And.intro rfl (And.intro rfl ?_)
        refine cond_split (fun e2 => ?_) (fun e2 => ?_)
        · refine hd _ _ _ _ _ _ hm0 (by omega) hb ⟨l2, by omega⟩ (fun r4 a5 c5 k0 k1 k2 k3 => ?_)
          obtain ⟨k, rfl⟩ := Int.eq_ofNat_of_zero_le k0
          have hk : k < rs.length := by omega
          refine Exists.intro _ (And.intro last ?_)
          refine And.intro (show (cut (ps.map Rl.d) none (some (k : Int))).length + (cut (rs.map Rl.d) (some (k : Int)) (some ((k : Int) + 1))).length ≤ 16777216 from ?_) ?_
          · have := lc ps none (some (k : Int)) (by omega)
            have := lc rs (some (k : Int)) (some ((k : Int) + 1)) (by omega)
            omega
          refine Exists.intro _ (And.intro last ?_)
          refine And.intro (show (cut (ps.map Rl.d) none (some (k : Int)) ++ cut (rs.map Rl.d) (some (k : Int)) (some ((k : Int) + 1))).length + (cut (ps.map Rl.d) (some ((k : Int) + 1)) none).length ≤ 16777216 from ?_) ?_
          · rw [List.length_append]
            have := lc ps none (some (k : Int)) (by omega)
            have := lc rs (some (k : Int)) (some ((k : Int) + 1)) (by omega)
            have := lc ps (some ((k : Int) + 1)) none (by omega)
            omega
          have fin := h a5 c5 (mixed ps rs k) (sv (iM k)) k2 (by omega) (by rw [mixed_len hk (by omega)]; exact hr) (mixed_vr hk (by omega) hpv hv) (.inr ⟨_, rfl⟩)
          rw [← mixed_cut ps rs hk] at fin
          exact fin
        · exact h a3 c3 rs _ l2 (by omega) hr hv (by first | exact .inl rfl | exact .inr ⟨_, rfl⟩)
    · exact cond_no e1 (h a c rs t14 hc.1 (by omega) hr hv h14)
end
end K02
end QL
end
section
set_option linter.all false
set_option maxRecDepth 100000
set_option maxHeartbeats 1000000
set_option autoImplicit false
namespace QL
namespace K02
open PySem PySem.Spec PyProof.Rows L2

section
variable {Γ : Ctx} {D : Post} {a b c s0 s1 s2 s3 : Int} {cnt many : Nat} {ts ws : List Str} {fd m7 m8 : M}
abbrev T2 (t7 t8 : Option SV) : Prop := (t7 = none ∧ t8 = none) ∨ ∃ m7 m8, t7 = sv m7 ∧ t8 = sv m8
theorem turn0_run {t7 t8 t9 t10 t11 t12 t13 t14 : Option SV} {k : Int} (h2 : T2 t7 t8) (h5 : F5 t9 t10 t11 t12 t13 t14) (h : D.nx (E0 (sack a b c) (szs s0 s1 s2 s3) cnt many ts ws fd (sv (iM k)) (sv (.sl [])) t9 t10 t11 t12 t13 t14)) :
    bindBW (.n 7) (oneD (.int k)) (E0 (sack a b c) (szs s0 s1 s2 s3) cnt many ts ws fd t7 t8 t9 t10 t11 t12 t13 t14) fun σ1 => exS Γ false (.asg (.n 8) (.lst .nil)) σ1 D := by
  obtain ⟨h0, h12, h14⟩ := h5
  rcases h2 with ⟨rfl, rfl⟩ | ⟨m7, m8, rfl, rfl⟩ <;> rcases h0 with ⟨rfl, rfl, rfl, rfl⟩ | ⟨m9, m10, m11, m13, rfl, rfl, rfl, rfl⟩ <;> rcases h12 with rfl | ⟨m12, rfl⟩ <;> rcases h14 with rfl | ⟨m14, rfl⟩ <;> exact h
theorem appE_run {es : List (List Rl)} {rs : List Rl} {t9 t10 t11 t12 t13 t14 : Option SV} (h5 : F5 t9 t10 t11 t12 t13 t14) (hl : es.length ≤ 100) (h : D.nx (E0 (sack a b c) (szs s0 s1 s2 s3) cnt many ts ws (.sl ((es ++ [rs]).map edD)) (sv m7) (sv (.dat (edD rs))) t9 t10 t11 t12 t13 t14)) :
    exS Γ false (.ex (.bm (.x 6) .append (.cons false (.x 8) .nil))) (E0 (sack a b c) (szs s0 s1 s2 s3) cnt many ts ws (.sl (es.map edD)) (sv m7) (sv (.sl (rs.map Rl.d))) t9 t10 t11 t12 t13 t14) D := by
  obtain ⟨h0, h12, h14⟩ := h5
  rw [List.map_append] at h
  have hn : (es.map edD).length < 16777216 := by rw [List.length_map]; omega
  rcases h0 with ⟨rfl, rfl, rfl, rfl⟩ | ⟨m9, m10, m11, m13, rfl, rfl, rfl, rfl⟩ <;> rcases h12 with rfl | ⟨m12, rfl⟩ <;> rcases h14 with rfl | ⟨m14, rfl⟩ <;> exact And.intro hn h
abbrev mixS : QL.S := .ifs (.and (.cmp .ne (.x 6) (.lst .nil)) (.and (.cmp .gt (.x 3) (.c (.int 0))) (.cmp .eq (.call 42 (.cons false (.x 0) (.cons false (.c (.int 2)) .nil)) []) (.c (.int 0)))))
 (.cons (.asg (.n 14) (.call 42 (.cons false (.x 0) (.cons false (.x 3) .nil)) []))
 (.cons (.asg (.n 8) (.bin .add (.bin .add (.sl (.ix (.x 6) (.neg (.c (.int 1)))) .none (.some (.x 14))) (.sl (.x 8) (.some (.x 14)) (.some (.bin .add (.x 14) (.c (.int 1)))))) (.sl (.ix (.x 6) (.neg (.c (.int 1)))) (.some (.bin .add (.x 14) (.c (.int 1)))) .none)))
 .nil))
 .nil
abbrev turnS : Ss := (.cons (.asg (.n 8) (.lst .nil))
 (.cons (.for (.n 9) (.range (.cons false (.x 2) (.cons false (.bin .add (.x 2) (.x 3)) .nil))) colS)
 (.cons mixS
 (.cons (.ex (.bm (.x 6) .append (.cons false (.x 8) .nil)))
 .nil))))
theorem turns_run (hd : DrawS Γ.call) (hb : 0 ≤ b ∧ b < 2 ^ 80) (hc : 0 ≤ c ∧ c < 2 ^ 36) (hs : 0 ≤ s3 ∧ s3 ≤ 6) (hs2 : 1 ≤ s2 ∧ s2 ≤ 8)
    (hts : ts.Nodup) (hlt : ts.length ≤ 20) (hlen : ts.length = cnt + many) (hw : 0 < ws.length ∧ ws.length ≤ 100) (hwn : ∀ w ∈ ws, Nm w)
    (h : ∀ (a' c' : Int) (es : List (List Rl)) (m7 m8 : M) (t9 t10 t11 t12 t13 t14 : Option SV), 0 ≤ c' → c' ≤ c + 10000 → 1 ≤ es.length → es.length ≤ 8 → Eds ts cnt many es → F5 t9 t10 t11 t12 t13 t14 → D.nx (E0 (sack a' b c') (szs s0 s1 s2 s3) cnt many ts ws (.sl (es.map edD)) (sv m7) (sv m8) t9 t10 t11 t12 t13 t14)) :
    exS Γ false (.for (.n 7) (.range (.cons false (.bin .add (.c (.int 1)) (.call 42 (.cons false (.x 0) (.cons false (.ix (.x 1) (.c (.int 2))) .nil)) [])) .nil)) turnS) (E0 (sack a b c) (szs s0 s1 s2 s3) cnt many ts ws (.sl []) none none none none none none none none) D := by
  refine Exists.intro _ (And.intro rfl ?_)
  refine hd _ _ _ _ _ _ (by omega) (by omega) hb ⟨hc.1, by omega⟩ (fun r a1 c1 g0 g1 g2 g3 => ?_)
  obtain ⟨z, rfl⟩ := Int.eq_ofNat_of_zero_le g0
  refine And.intro (by unfold smallI; omega) ?_
  have ez : ((1 : Int) + (z : Int)).toNat = z + 1 := by omega
  rw [ez]
  refine forD_ind _ (fun i σ => ∃ (a c : Int) (es : List (List Rl)) (t7 t8 t9 t10 t11 t12 t13 t14 : Option SV), 0 ≤ c ∧ c ≤ c1 + 500 * i ∧ es.length = i ∧ Eds ts cnt many es ∧ T2 t7 t8 ∧ (0 < i → ∃ m7 m8, t7 = sv m7 ∧ t8 = sv m8) ∧ F5 t9 t10 t11 t12 t13 t14 ∧ σ = E0 (sack a b c) (szs s0 s1 s2 s3) cnt many ts ws (.sl (es.map edD)) t7 t8 t9 t10 t11 t12 t13 t14) ?_ ?_ ?_
  · exact ⟨a1, c1, [], none, none, none, none, none, none, none, none, g2, by omega, rfl, (fun _ h => by cases h), .inl ⟨rfl, rfl⟩, (fun h => by omega), ⟨.inl ⟨rfl, rfl, rfl, rfl⟩, .inl rfl, .inl rfl⟩, rfl⟩
  · rintro i b' σ N hb' ⟨a2, c2, es, u7, u8, u9, u10, u11, u12, u13, u14, k1, k2, k3, k4, k5, k6, k7, rfl⟩ hN
    obtain ⟨rfl, hi⟩ := rangeD_get hb'
    refine turn0_run k5 k7 ?_
    refine cols_run hd k7 hb ⟨k1, by omega⟩ hs hts hlt hlen hw hwn (fun a3 c3 rs v9 v10 v11 v12 v13 v14 l1 l2 l3 l4 l5 => ?_)
    refine mix_run hd l5 hb ⟨l1, by omega⟩ (by omega) k4 l3 l4 (fun a4 c4 rs' w14 n1 n2 n3 n4 n5 => ?_)
    have l5' : F5 v9 v10 v11 v12 v13 w14 := ⟨l5.1, l5.2.1, n5⟩
    refine appE_run (Γ := Γ) l5' (by omega) ?_
    refine hN _ ⟨a4, c4, es ++ [rs'], _, _, _, _, _, _, _, _, n1, by omega, by simp [k3], fun q hq => ?_, .inr ⟨_, _, rfl, rfl⟩, (fun _ => ⟨_, _, rfl, rfl⟩), l5', rfl⟩
    rcases List.mem_append.mp hq with hq | hq
    · exact k4 q hq
    · rw [List.mem_singleton.mp hq]; exact ⟨n3, n4⟩
  · rintro σ ⟨a2, c2, es, u7, u8, u9, u10, u11, u12, u13, u14, k1, k2, k3, k4, k5, k6, k7, rfl⟩
    rw [QL.rangeD_len] at k2 k3 k6
    obtain ⟨m7, m8, rfl, rfl⟩ := k6 (by omega)
    exact h a2 c2 es m7 m8 _ _ _ _ _ _ k1 (by omega) (by omega) (by omega) k4 k7
end
def TitS (call : Nat → List M → CK → CX → Prop) : Prop := ∀ (a b c : Int) (many : Nat) (K : CK) (X : CX), many ≤ 14 → (0 ≤ b ∧ b < 2 ^ 80) → (0 ≤ c ∧ c < 2 ^ 39) →
  (∀ (ts : List Str) a' c', ts.length = many → (∀ t ∈ ts, Nm t) → ts.Nodup → 0 ≤ c' → c' ≤ c + 200 → K (.v (.sl (ts.map .str))) [sack a' b c', .dat (.int many)]) → call 52 [sack a b c, .dat (.int many)] K X
theorem tit_S (n : Nat) : TitS (callW Pg (n + 2)) := fun a b c many K X h1 h2 h3 h4 => titles_ok h1 h2 h3 h4
/-- a plan that is valid -/
structure WF (pl : List Str) (es : List (List Rl)) (ts : List Str) (many : Nat) : Prop where
  tk : pl = ts.take pl.length
  len : ts.length = pl.length + many
  l1 : 1 ≤ pl.length
  l2 : ts.length ≤ 14
  nm : ∀ t ∈ ts, Nm t
  nd : ts.Nodup
  e1 : 1 ≤ es.length
  e2 : es.length ≤ 8
  es : Eds ts pl.length many es
def planD (pl : List Str) (es : List (List Rl)) : PyData := .tuple [.list (pl.map .str), .list (es.map edD)]
theorem plan_run {call : Nat → List M → CK → CX → Prop} (hd : DrawS call) (ht : TitS call) {a b c s0 s1 s2 s3 : Int} {K : CK} {X : CX} (hb : 0 ≤ b ∧ b < 2 ^ 80) (hc : 0 ≤ c ∧ c < 2 ^ 35) (h0 : 1 ≤ s0 ∧ s0 ≤ 6) (h1 : 1 ≤ s1 ∧ s1 ≤ 8) (h2 : 1 ≤ s2 ∧ s2 ≤ 8) (h3 : 0 ≤ s3 ∧ s3 ≤ 6)
    (hK : ∀ pl es ts many a' c', WF pl es ts many → 0 ≤ c' → c' ≤ c + 20000 → K (.v (.dat (planD pl es))) [sack a' b c', szs s0 s1 s2 s3]) :
    runW (gm call) ir__law_any_plan [sack a b c, szs s0 s1 s2 s3] K X := by
  refine Exists.intro _ (And.intro rfl ?_)
  refine hd _ _ _ _ _ _ (by omega) (by omega) hb ⟨hc.1, by omega⟩ (fun r a1 c1 g0 g1 g2 g3 => ?_)
  obtain ⟨r, rfl⟩ := Int.eq_ofNat_of_zero_le g0
  refine Exists.intro _ (And.intro rfl ?_)
  refine hd _ _ _ _ _ _ (by omega) (by omega) hb ⟨g2, by omega⟩ (fun q a2 c2 k0 k1 k2 k3 => ?_)
  obtain ⟨q, rfl⟩ := Int.eq_ofNat_of_zero_le k0
  refine hd _ _ _ _ _ _ (by decide) (by decide) hb ⟨k2, by omega⟩ (fun z a3 c3 l0 l1 l2 l3 => ?_)
  have rest : ∀ many : Nat, many ≤ 8 → exSs (gm call) false (.cons (.par [(.n 4), (.n 5)] (.cons false (.call 52 (.cons false (.x 0) (.cons false (.bin .add (.x 2) (.x 3)) .nil)) []) (.cons false (.call 52 (.cons false (.x 0) (.cons false (.bin .add (.c (.int 1)) (.call 42 (.cons false (.x 0) (.cons false (.c (.int 3)) .nil)) [])) .nil)) []) .nil)))
 (.cons (.asg (.n 6) (.lst .nil))
 (.cons (.for (.n 7) (.range (.cons false (.bin .add (.c (.int 1)) (.call 42 (.cons false (.x 0) (.cons false (.ix (.x 1) (.c (.int 2))) .nil)) [])) .nil)) turnS)
 (.cons (.ret (.tup (.cons false (.sl (.x 4) .none (.some (.x 2))) (.cons false (.x 6) .nil))))
 .nil)))) [some (.v (sack a3 b c3)), some (.v (szs s0 s1 s2 s3)), some (.v (iM ((1 + r : Nat) : Int))), some (.v (iM (many : Int))), none, none, none, none, none, none, none, none, none, none, none]
      { nx := fun σ => finishW ir__law_any_plan [sack a b c, szs s0 s1 s2 s3] K (.v (.dat .none)) σ, rt := finishW ir__law_any_plan [sack a b c, szs s0 s1 s2 s3] K, bk := fun _ => False, ct := fun _ => False, ex := fun c_1 m σ => outsW ir__law_any_plan.reb σ 0 [sack a b c, szs s0 s1 s2 s3] fun outs => X c_1 m outs } := fun many hm => by
    refine ht _ _ _ (1 + r + many) _ _ (by omega) hb ⟨l2, by omega⟩ (fun ts a4 c4 n1 n2 n3 n4 n5 => ?_)
    refine hd _ _ _ _ _ _ (by decide) (by decide) hb ⟨n4, by omega⟩ (fun w a5 c5 o0 o1 o2 o3 => ?_)
    obtain ⟨w, rfl⟩ := Int.eq_ofNat_of_zero_le o0
    refine ht _ _ _ (1 + w) _ _ (by omega) hb ⟨o2, by omega⟩ (fun ws a6 c6 p1 p2 p3 p4 p5 => ?_)
    refine turns_run (cnt := 1 + r) hd hb ⟨p4, by omega⟩ h3 h2 n3 (by omega) (by omega) ⟨by omega, by omega⟩ p2 (fun a7 c7 es m7 m8 t9 t10 t11 t12 t13 t14 q1 q2 q3 q4 q5 q6 => ?_)
    have fin := hK (ts.take (1 + r)) es ts many a7 c7 ⟨by rw [List.length_take, n1, Nat.min_eq_left (by omega)], by rw [List.length_take, n1]; omega, by rw [List.length_take, n1]; omega, by omega, n2, n3, q3, q4, by rw [List.length_take, n1, Nat.min_eq_left (by omega)]; exact q5⟩ q1 (by omega)
    unfold planD at fin
    rw [List.map_take, ← cut_take] at fin
    obtain ⟨u0, u12, u14⟩ := q6
    rcases u0 with ⟨rfl, rfl, rfl, rfl⟩ | ⟨m9, m10, m11, m13, rfl, rfl, rfl, rfl⟩ <;> rcases u12 with rfl | ⟨m12, rfl⟩ <;> rcases u14 with rfl | ⟨m14, rfl⟩ <;> exact fin
  refine And.intro rfl (And.intro rfl ?_)
  refine cond_split (fun e => ?_) (fun e => ?_)
  · exact rest 0 (by decide)
  · exact rest (1 + q) (by omega)
theorem plan_ok {n : Nat} {a b c s0 s1 s2 s3 : Int} {K : CK} {X : CX} (hb : 0 ≤ b ∧ b < 2 ^ 80) (hc : 0 ≤ c ∧ c < 2 ^ 35) (h0 : 1 ≤ s0 ∧ s0 ≤ 6) (h1 : 1 ≤ s1 ∧ s1 ≤ 8) (h2 : 1 ≤ s2 ∧ s2 ≤ 8) (h3 : 0 ≤ s3 ∧ s3 ≤ 6)
    (hK : ∀ pl es ts many a' c', WF pl es ts many → 0 ≤ c' → c' ≤ c + 20000 → K (.v (.dat (planD pl es))) [sack a' b c', szs s0 s1 s2 s3]) : callW Pg (n + 3) 53 [sack a b c, szs s0 s1 s2 s3] K X :=
  call_of (fn := ir__law_any_plan) rfl (plan_run (fun a b c m K X h1 h2 h3 h4 h5 => draw_ok h1 h2 h3 h4 h5) (tit_S n) hb hc h0 h1 h2 h3 hK)
end K02
end QL
end
section
set_option linter.all false
set_option maxRecDepth 100000
set_option maxHeartbeats 1000000
set_option autoImplicit false
namespace QL
namespace K02
open PySem PySem.Spec PyProof.Rows L2

theorem bits_lg {i : Int} (h : Builtin.Int.intBits i ≤ 1048576) : i.natAbs.log2 ≤ 1048576 := by
  unfold Builtin.Int.intBits at h
  by_cases z : i = 0
  · subst z; decide
  · rw [if_neg (by simpa using z)] at h
    omega
theorem source_ok {n : Nat} {ns : List Int} {p : Nat} {K : CK} {X : CX} (hn : ns.length ≤ 63) (hbt : ∀ i ∈ ns, Builtin.Int.intBits i ≤ 1048576) (hp : p ≤ 100) (hK : ∀ a b, (0 ≤ b ∧ b < 2 ^ 80) → K (.v (sack a b 0)) [.scr ns, iM p]) : callW Pg (n + 1) 41 [.scr ns, iM p] K X := by
  refine call_of (fn := ir__law_source) rfl ?_
  have rest : ∀ v : Int, v.natAbs.log2 ≤ 1048576 → exSs (gam Pg n) false (.cons (.ret (.lst (.cons false (.prim .max2 (.cons false (.c (.int 0)) (.cons false (.bin .sub (.prim .abs (.cons false (.x 2) .nil)) (.bin .pow (.c (.int 10)) (.c (.int 18)))) .nil))) (.cons false (.bin .mod (.prim .int (.cons false (.bin .add (.bin .add (.bin .mul (.x 2) (.c (.int 60013))) (.bin .mul (.x 1) (.c (.int 15485863)))) (.c (.int 32452843))) .nil)) (.bin .add (.bin .pow (.c (.int 10)) (.c (.int 24))) (.c (.int 7)))) (.cons false (.c (.int 0)) .nil)))))
 .nil) [some (.v (.scr ns)), some (.v (iM p)), some (.v (iM v))] { nx := fun σ => finishW ir__law_source [.scr ns, iM p] K (.v (.dat .none)) σ, rt := finishW ir__law_source [.scr ns, iM p] K, bk := fun _ => False, ct := fun _ => False, ex := fun c m σ => outsW ir__law_source.reb σ 0 [.scr ns, iM p] fun outs => X c m outs } := fun v hv => by
    refine And.intro (And.intro (by decide) (And.intro (by decide) (by decide +kernel))) ?_
    refine And.intro ?_ ?_
    · have h2 : (60013 : Int).natAbs.log2 ≤ 20 := by decide
      omega
    refine And.intro ?_ ?_
    · have h2 : (15485863 : Int).natAbs.log2 ≤ 30 := by decide
      have := lgI (i := (p : Int)) (k := 10) (by omega) (by omega) (by decide)
      omega
    refine And.intro (And.intro (by decide) (And.intro (by decide) (by decide +kernel))) ?_
    refine And.intro (by decide +kernel) ?_
    have hp : (0 : Int) < 10 ^ 24 + 7 := by decide +kernel
    have h3 : (10 : Int) ^ 24 + 7 < 2 ^ 80 := by decide +kernel
    exact hK _ _ ⟨Int.emod_nonneg _ (Int.ne_of_gt hp), Int.lt_trans (Int.emod_lt_of_pos _ hp) h3⟩
  refine cond_split (fun e => ?_) (fun e => ?_)
  · have e : ((p : Int) < (ns.length : Int)) := of_decide_eq_true e
    have hlt : p < ns.length := by omega
    refine Exists.intro ns[p] (And.intro (atI_nat (by simp [hlt])) ?_)
    exact rest _ (bits_lg (hbt _ (List.getElem_mem hlt)))
  · exact rest 0 (by decide)
theorem copied_ok {n : Nat} {es : List (List Rl)} {K : CK} {X : CX} (hl : es.length ≤ 100) (hK : K (.v (.sl (es.map edD))) [.dat (.list (es.map edD))]) : callW Pg (n + 1) 54 [.dat (.list (es.map edD))] K X := by
  refine call_of (fn := ir__law_copied) rfl ?_
  refine forD_ind _ (fun i σ => ∃ (y : Option SV), OneV y ∧ σ = [some (.v (.dat (.list (es.map edD)))), some (.v (.sl ((es.take i).map edD))), y, none]) ⟨none, .inl rfl, rfl⟩ ?_ ?_
  · rintro i b' σ N hb' ⟨y, hy, rfl⟩ hN
    obtain ⟨rs, hrs, rfl⟩ : ∃ rs, es[i]? = some rs ∧ b' = oneD (edD rs) := by
      unfold walkD at hb'
      simp only [List.getElem?_map] at hb'
      cases e : es[i]? with
      | none => rw [e] at hb'; cases hb'
      | some c => rw [e] at hb'; cases hb'; exact ⟨c, rfl, rfl⟩
    have et : (es.take (i + 1)).map edD = (es.take i).map edD ++ [edD rs] := by
      rw [List.take_succ, hrs, List.map_append]
      rfl
    have fin : N [some (.v (.dat (.list (es.map edD)))), some (.v (.sl ((es.take i).map edD ++ [edD rs]))), some (.v (.dat (edD rs))), none] := hN _ ⟨_, .inr ⟨_, rfl⟩, by rw [et]⟩
    have hlen : ((es.take i).map edD).length < 16777216 := by
      rw [List.length_map, List.length_take]
      omega
    rcases hy with rfl | ⟨m, rfl⟩ <;>
    · refine compW_dat (fun i' acc σ => ∃ (y : Option SV), acc = (rs.take i').map (fun r => .dat r.d) ∧ OneV y ∧ σ = [some (.v (.dat (.list (es.map edD)))), some (.v (.sl ((es.take i).map edD))), some (.v (.dat (edD rs))), y]) ⟨none, rfl, .inl rfl, rfl⟩ ?_ ?_
      · rintro i' b'' acc σ N' hb'' ⟨y, rfl, hy, rfl⟩ hN'
        obtain ⟨r, hr, rfl⟩ : ∃ r, rs[i']? = some r ∧ b'' = oneD r.d := by
          unfold walkD at hb''
          simp only [List.getElem?_map] at hb''
          cases e : rs[i']? with
          | none => rw [e] at hb''; cases hb''
          | some c => rw [e] at hb''; cases hb''; exact ⟨c, rfl, rfl⟩
        have et' : (rs.take (i' + 1)).map (fun r => M.dat r.d) = (rs.take i').map (fun r => M.dat r.d) ++ [.dat r.d] := by
          rw [List.take_succ, hr, List.map_append]
          rfl
        have at0 : atI [PyData.str r.col, .str r.form, .list (r.src.map .str), .str r.held] ((0 : Nat) : Int) = some (.str r.col) := atI_nat rfl
        have at1 : atI [PyData.str r.col, .str r.form, .list (r.src.map .str), .str r.held] ((1 : Nat) : Int) = some (.str r.form) := atI_nat rfl
        have at2 : atI [PyData.str r.col, .str r.form, .list (r.src.map .str), .str r.held] ((2 : Nat) : Int) = some (.list (r.src.map .str)) := atI_nat rfl
        have at3 : atI [PyData.str r.col, .str r.form, .list (r.src.map .str), .str r.held] ((3 : Nat) : Int) = some (.str r.held) := atI_nat rfl
        rcases hy with rfl | ⟨m2, rfl⟩ <;>
        · refine Exists.intro _ (And.intro at0 ?_)
          refine Exists.intro _ (And.intro at1 ?_)
          refine Exists.intro _ (And.intro at2 ?_)
          refine Exists.intro _ (And.intro at3 ?_)
          exact hN' [.dat r.d] _ ⟨_, et'.symm ▸ rfl, .inr ⟨_, rfl⟩, rfl⟩
      · rintro acc σ ⟨y, rfl, hy, rfl⟩
        refine ⟨[some (.v (.dat (.list (es.map edD)))), some (.v (.sl ((es.take i).map edD))), some (.v (.dat (edD rs))), none], fun K' k => (by rcases hy with rfl | ⟨m2, rfl⟩ <;> exact k), ?_⟩
        have el : rs.take (walkD false (rs.map Rl.d)).length = rs := by
          unfold walkD
          simp
        have em : mkL (rs.map fun r => .dat r.d) = .sl (rs.map Rl.d) := by
          rw [← mkL_dat, List.map_map]
          rfl
        rw [el]
        rw [em]
        exact And.intro hlen fin
  · rintro σ ⟨y, hy, rfl⟩
    have el : es.take (walkD false (es.map edD)).length = es := by
      unfold walkD
      simp
    rw [el]
    rcases hy with rfl | ⟨m, rfl⟩ <;> exact hK
def deedsD (pl : List Str) (rs : List Rl) : List PyData := [.tuple [.str (Str.ofString "put")]] ++ pl.map (fun t => .tuple [.str (Str.ofString "set"), .str t]) ++ rs.map (fun r => .tuple [.str (Str.ofString "rewrite"), .str r.col]) ++ [.tuple [.str (Str.ofString "edition")]]
theorem every_ok {n : Nat} {pl : List Str} {rs : List Rl} {es : List (List Rl)} {K : CK} {X : CX} (hl : pl.length ≤ 100) (hl2 : rs.length ≤ 100) (hK : K (.v (.sl (deedsD pl rs))) [.dat (planD pl (rs :: es))]) : callW Pg (n + 1) 56 [.dat (planD pl (rs :: es))] K X := by
  refine call_of (fn := ir__law_every_deed) rfl ?_
  have at0 : atI [PyData.list (pl.map .str), .list ((rs :: es).map edD)] ((0 : Nat) : Int) = some (.list (pl.map .str)) := atI_nat rfl
  have at1 : atI [PyData.list (pl.map .str), .list ((rs :: es).map edD)] ((1 : Nat) : Int) = some (.list ((rs :: es).map edD)) := atI_nat rfl
  have at2 : atI ((rs :: es).map edD) ((0 : Nat) : Int) = some (edD rs) := atI_nat rfl
  refine Exists.intro _ (And.intro at0 ?_)
  refine compW_dat (fun i acc σ => ∃ (y : Option SV), acc = ((pl.take i).map (fun t => PyData.tuple [.str (Str.ofString "set"), .str t])).map .dat ∧ OneV y ∧ σ = [some (.v (.dat (planD pl (rs :: es)))), none, y, none]) ⟨none, rfl, .inl rfl, rfl⟩ ?_ ?_
  · rintro i b' acc σ N hb' ⟨y, rfl, hy, rfl⟩ hN
    obtain ⟨t, ht, rfl⟩ : ∃ t, pl[i]? = some t ∧ b' = oneD (.str t) := by
      unfold walkD at hb'
      simp only [List.getElem?_map] at hb'
      cases e : pl[i]? with
      | none => rw [e] at hb'; cases hb'
      | some c => rw [e] at hb'; cases hb'; exact ⟨c, rfl, rfl⟩
    rcases hy with rfl | ⟨m2, rfl⟩ <;>
    · refine hN [.dat (.tuple [.str (Str.ofString "set"), .str t])] _ ⟨_, ?_, .inr ⟨_, rfl⟩, rfl⟩
      rw [List.take_succ, ht, List.map_append, List.map_append]
      rfl
  · rintro acc σ ⟨y, rfl, hy, rfl⟩
    refine ⟨[some (.v (.dat (planD pl (rs :: es)))), none, none, none], fun K' k => (by rcases hy with rfl | ⟨m2, rfl⟩ <;> exact k), ?_⟩
    have el : pl.take (walkD false (pl.map PyData.str)).length = pl := by
      unfold walkD
      simp
    rw [el]
    rw [mkL_dat]
    refine And.intro (show 1 + (pl.map _).length ≤ 16777216 by rw [List.length_map]; omega) ?_
    refine Exists.intro _ (And.intro at1 ?_)
    refine Exists.intro _ (And.intro at2 ?_)
    refine compW_dat (fun i acc σ => ∃ (y : Option SV), acc = ((rs.take i).map (fun r => PyData.tuple [.str (Str.ofString "rewrite"), .str r.col])).map .dat ∧ OneV y ∧ σ = [some (.v (.dat (planD pl (rs :: es)))), some (.v (.sl ([.tuple [.str (Str.ofString "put")]] ++ pl.map (fun t => .tuple [.str (Str.ofString "set"), .str t])))), none, y]) ⟨none, rfl, .inl rfl, rfl⟩ ?_ ?_
    · rintro i b' acc σ N hb' ⟨y, rfl, hy, rfl⟩ hN
      obtain ⟨r, hr, rfl⟩ : ∃ r, rs[i]? = some r ∧ b' = oneD r.d := by
        unfold walkD at hb'
        simp only [List.getElem?_map] at hb'
        cases e : rs[i]? with
        | none => rw [e] at hb'; cases hb'
        | some c => rw [e] at hb'; cases hb'; exact ⟨c, rfl, rfl⟩
      have at0 : atI [PyData.str r.col, .str r.form, .list (r.src.map .str), .str r.held] ((0 : Nat) : Int) = some (.str r.col) := atI_nat rfl
      rcases hy with rfl | ⟨m2, rfl⟩ <;>
      · refine Exists.intro _ (And.intro at0 ?_)
        refine hN [.dat (.tuple [.str (Str.ofString "rewrite"), .str r.col])] _ ⟨_, ?_, .inr ⟨_, rfl⟩, rfl⟩
        rw [List.take_succ, hr, List.map_append, List.map_append]
        rfl
    · rintro acc σ ⟨y, rfl, hy, rfl⟩
      refine ⟨[some (.v (.dat (planD pl (rs :: es)))), some (.v (.sl ([.tuple [.str (Str.ofString "put")]] ++ pl.map (fun t => .tuple [.str (Str.ofString "set"), .str t])))), none, none], fun K' k => (by rcases hy with rfl | ⟨m2, rfl⟩ <;> exact k), ?_⟩
      have el : rs.take (walkD false (rs.map Rl.d)).length = rs := by
        unfold walkD
        simp
      rw [el]
      rw [mkL_dat]
      refine And.intro (show ([_] ++ pl.map _).length + (rs.map _).length ≤ 16777216 by simp; omega) ?_
      refine And.intro (show ([_] ++ pl.map _ ++ rs.map _).length + 1 ≤ 16777216 by simp; omega) ?_
      exact hK
def NameS (call : Nat → List M → CK → CX → Prop) : Prop := ∀ (x : Str) (K : CK) (X : CX), Nm x → K (.v (.dat (.bool true))) [.dat (.str x)] → call 28 [.dat (.str x)] K X
theorem name_S (n : Nat) : NameS (callW Pg (n + 1)) := fun x K X h1 h2 => is_name_ok h1 h2
theorem not_ahead {l : List Str} (nd : l.Nodup) {i : Nat} {t : Str} (h : l[i]? = some t) : t ∉ l.take i := fun hm => by
  obtain ⟨hi, e⟩ := List.getElem?_eq_some_iff.mp h
  obtain ⟨j, hj, e2⟩ := List.mem_iff_getElem.mp hm
  rw [List.length_take] at hj
  rw [List.getElem_take] at e2
  have := nd_inj nd (by omega) hi (e2.trans e.symm)
  omega
theorem names_run {call : Nat → List M → CK → CX → Prop} (hn : NameS call) {pl : List Str} {K : CK} {X : CX} (nm : ∀ t ∈ pl, Nm t) (nd : pl.Nodup) (hK : K (.v (.dat .none)) [.sl (pl.map .str)]) :
    runW (gm call) ir_check_names [.sl (pl.map .str)] K X := by
  refine forO_ind (fun i σ => ∃ y z, T2 y z ∧ σ = [some (.v (.sl (pl.map .str))), y, z, some (.al 0 [])]) ⟨none, none, .inl ⟨rfl, rfl⟩, rfl⟩ ?_ ?_
  · rintro i σ N hi ⟨y, z, h2, rfl⟩ hN
    rw [List.length_map] at hi
    have e : (pl.map PyData.str)[i]? = some (.str pl[i]) := by simp [hi]
    have ec : cut (pl.map PyData.str) none (some (i : Int)) = (pl.take i).map .str := by rw [cut_take, List.map_take]
    have na := not_ahead nd (List.getElem?_eq_getElem hi)
    have okc : okD (.list (cut (pl.map PyData.str) none (some (i : Int)))) = true := by rw [ec]; exact ok_strs _
    have an : ((cut (pl.map PyData.str) none (some (i : Int))).any fun z => PyData.eqv z (.str pl[i])) = false := by
      rw [ec, any_str]
      exact decide_eq_false na
    rcases h2 with ⟨rfl, rfl⟩ | ⟨m1, m2, rfl, rfl⟩ <;>
    · refine And.intro trivial (And.intro rfl ?_)
      refine Exists.intro _ (And.intro e ?_)
      refine And.intro rfl ?_
      refine hn _ _ _ (nm _ (List.getElem_mem hi)) ?_
      refine And.intro rfl (And.intro okc ?_)
      refine cond_no an ?_
      exact hN _ ⟨_, _, .inr ⟨_, _, rfl, rfl⟩, rfl⟩
  · rintro σ ⟨y, z, h2, rfl⟩
    rcases h2 with ⟨rfl, rfl⟩ | ⟨m1, m2, rfl, rfl⟩ <;> exact And.intro trivial (And.intro rfl hK)
end K02
end QL
end
section
set_option linter.all false
set_option maxRecDepth 100000
set_option maxHeartbeats 1000000
set_option autoImplicit false
namespace QL
namespace K02
open PySem PySem.Spec PyProof.Rows L2

theorem numb_get : ∀ {l : List PyData} {k i : Nat} {b : BV}, (numbD k l)[i]? = some b → ∃ d, l[i]? = some d ∧ b = .two (.v (.dat (.int ((k + i : Nat) : Int)))) (.v (.dat d))
  | [], k, i, b, h => by simp [numbD] at h
  | d :: r, k, 0, b, h => by
    simp [numbD] at h
    subst h
    exact ⟨d, rfl, rfl⟩
  | d :: r, k, i + 1, b, h => by
    have h2 : (numbD (k + 1) r)[i]? = some b := by simpa [numbD] using h
    obtain ⟨d', e1, e2⟩ := numb_get h2
    refine ⟨d', by simpa using e1, ?_⟩
    rw [e2, show k + 1 + i = k + (i + 1) by omega]
def SrcS (call : Nat → List M → CK → CX → Prop) : Prop := ∀ (src kn : List Str) (K : CK) (X : CX), (∀ x ∈ src, x ∈ kn) → src.Nodup → K (.v (.dat .none)) [.dat (.list (src.map .str)), .sl (kn.map .str)] → call 30 [.dat (.list (src.map .str)), .sl (kn.map .str)] K X
theorem src_S (n : Nat) : SrcS (callW Pg (n + 1)) := fun src kn K X sub nd hK => by
  refine call_of (fn := ir_check_sources) rfl ?_
  refine forD_ind _ (fun i σ => ∃ y z, T2 y z ∧ σ = [some (.v (.dat (.list (src.map .str)))), some (.v (.sl (kn.map .str))), y, z]) ⟨none, none, .inl ⟨rfl, rfl⟩, rfl⟩ ?_ ?_
  · rintro i b' σ N hb' ⟨y, z, h2, rfl⟩ hN
    obtain ⟨d, hd, rfl⟩ := numb_get hb'
    rw [List.getElem?_map] at hd
    obtain ⟨t, ht, rfl⟩ : ∃ t, src[i]? = some t ∧ d = .str t := by
      cases e : src[i]? with
      | none => rw [e] at hd; cases hd
      | some t => rw [e] at hd; cases hd; exact ⟨t, rfl, rfl⟩
    have ec : cut (src.map PyData.str) none (some ((0 + i : Nat) : Int)) = (src.take i).map .str := by rw [cut_take, List.map_take, Nat.zero_add]
    have okc : okD (.list (cut (src.map PyData.str) none (some ((0 + i : Nat) : Int)))) = true := by rw [ec]; exact ok_strs _
    have an : ((cut (src.map PyData.str) none (some ((0 + i : Nat) : Int))).any fun z => PyData.eqv z (.str t)) = false := by
      rw [ec, any_str]
      exact decide_eq_false (not_ahead nd ht)
    have ak : (!((kn.map PyData.str).any fun z => PyData.eqv z (.str t))) = false := by
      rw [any_str, decide_eq_true (sub t (List.mem_of_getElem? ht))]
      rfl
    rcases h2 with ⟨rfl, rfl⟩ | ⟨m1, m2, rfl, rfl⟩ <;>
    · refine And.intro rfl ?_
      refine And.intro rfl (And.intro (ok_strs kn) ?_)
      refine cond_no ak ?_
      refine And.intro rfl (And.intro okc ?_)
      refine cond_no an ?_
      exact hN _ ⟨_, _, .inr ⟨_, _, rfl, rfl⟩, rfl⟩
  · rintro σ ⟨y, z, h2, rfl⟩
    rcases h2 with ⟨rfl, rfl⟩ | ⟨m1, m2, rfl, rfl⟩ <;> exact hK
theorem known_eq {ts : List Str} {cnt : Nat} {rs : List Rl} (v : VRs ts cnt rs) : ∀ i, i ≤ rs.length → ts.take cnt ++ (rs.take i).map Rl.col = ts.take (cnt + i)
  | 0, _ => by simp
  | i + 1, h => by
    have ih := known_eq v i (by omega)
    have hi : i < rs.length := by omega
    have c := (v.at_ i rs[i] (List.getElem?_eq_getElem hi)).col
    rw [show cnt + (i + 1) = cnt + i + 1 by omega, List.take_succ (l := ts), ← ih, c, List.take_succ (l := rs), List.getElem?_eq_getElem hi, List.map_append]
    simp
theorem ways_any {w : Str} (h : w ∈ ways) : (!(([PyData.str (Str.ofString "read"), .str (Str.ofString "follows"), .str (Str.ofString "stays")]).any fun z => PyData.eqv z (.str w))) = false := by
  have := any_str ways w
  rw [decide_eq_true h] at this
  show (!((ways.map PyData.str).any fun z => PyData.eqv z (.str w))) = false
  rw [this]
  rfl
abbrev A4 (y3 y4 y5 y6 : Option SV) : Prop := (y3 = none ∧ y4 = none ∧ y5 = none ∧ y6 = none) ∨ ∃ m3 m4 m5 m6, y3 = sv m3 ∧ y4 = sv m4 ∧ y5 = sv m5 ∧ y6 = sv m6
theorem edition_run {call : Nat → List M → CK → CX → Prop} (hn : NameS call) (hs : SrcS call) {pl ts : List Str} {rs : List Rl} {K : CK} {X : CX} (tk : pl = ts.take pl.length) (nm : ∀ t ∈ ts, Nm t) (nd : ts.Nodup) (hl : ts.length ≤ 100) (v : VRs ts pl.length rs) (hK : K (.v (.dat .none)) [.sl (pl.map .str), .dat (edD rs)]) :
    runW (gm call) ir_check_edition [.sl (pl.map .str), .dat (edD rs)] K X := by
  refine forD_ind _ (fun i σ => ∃ y3 y4 y5 y6, A4 y3 y4 y5 y6 ∧ σ = [some (.v (.sl (pl.map .str))), some (.v (.dat (edD rs))), some (.v (.sl ((ts.take (pl.length + i)).map .str))), y3, y4, y5, y6]) ⟨none, none, none, none, .inl ⟨rfl, rfl, rfl, rfl⟩, by rw [Nat.add_zero, ← tk]⟩ ?_ ?_
  · rintro i b' σ N hb' ⟨y3, y4, y5, y6, h4, rfl⟩ hN
    obtain ⟨r, hr, rfl⟩ : ∃ r, rs[i]? = some r ∧ b' = oneD r.d := by
      unfold walkD at hb'
      simp only [List.getElem?_map] at hb'
      cases e : rs[i]? with
      | none => rw [e] at hb'; cases hb'
      | some c => rw [e] at hb'; cases hb'; exact ⟨c, rfl, rfl⟩
    have vr := v.at_ i r hr
    have hk : pl.length + i < ts.length := (List.getElem?_eq_some_iff.mp vr.col).1
    have nmc : Nm r.col := nm _ (List.mem_of_getElem? vr.col)
    have an : (((ts.take (pl.length + i)).map PyData.str).any fun z => PyData.eqv z (.str r.col)) = false := by
      rw [any_str]
      exact decide_eq_false (not_ahead nd vr.col)
    have et : (ts.take (pl.length + (i + 1))).map PyData.str = (ts.take (pl.length + i)).map .str ++ [.str r.col] := by
      rw [show pl.length + (i + 1) = pl.length + i + 1 by omega, List.take_succ (l := ts), vr.col, List.map_append]
      rfl
    have hlen : ((ts.take (pl.length + i)).map PyData.str).length < 16777216 := by
      rw [List.length_map, List.length_take]
      omega
    have aw := ways_any vr.held
    rcases h4 with ⟨rfl, rfl, rfl, rfl⟩ | ⟨m3, m4, m5, m6, rfl, rfl, rfl, rfl⟩ <;>
    · refine And.intro rfl (And.intro rfl ?_)
      refine Exists.intro _ (And.intro rfl ?_)
      refine Exists.intro _ (And.intro rfl ?_)
      refine Exists.intro _ (And.intro rfl ?_)
      refine Exists.intro _ (And.intro rfl ?_)
      refine hn _ _ _ nmc ?_
      refine hn _ _ _ vr.form ?_
      refine And.intro rfl (And.intro (ok_strs _) ?_)
      refine cond_no an ?_
      refine hs _ _ _ _ vr.src vr.nd ?_
      refine And.intro rfl (And.intro rfl ?_)
      refine cond_no aw ?_
      refine And.intro hlen ?_
      exact hN _ ⟨_, _, _, _, .inr ⟨_, _, _, _, rfl, rfl, rfl, rfl⟩, by rw [et]; rfl⟩
  · rintro σ ⟨y3, y4, y5, y6, h4, rfl⟩
    rcases h4 with ⟨rfl, rfl, rfl, rfl⟩ | ⟨m3, m4, m5, m6, rfl, rfl, rfl, rfl⟩ <;> exact hK
def ChkN (call : Nat → List M → CK → CX → Prop) : Prop := ∀ (pl : List Str) (K : CK) (X : CX), (∀ t ∈ pl, Nm t) → pl.Nodup → K (.v (.dat .none)) [.sl (pl.map .str)] → call 29 [.sl (pl.map .str)] K X
theorem chk_N (n : Nat) : ChkN (callW Pg (n + 2)) := fun pl K X h1 h2 h3 => call_of (fn := ir_check_names) rfl (names_run (name_S n) h1 h2 h3)
def ChkE (call : Nat → List M → CK → CX → Prop) : Prop := ∀ (pl ts : List Str) (rs : List Rl) (K : CK) (X : CX), pl = ts.take pl.length → (∀ t ∈ ts, Nm t) → ts.Nodup → ts.length ≤ 100 → VRs ts pl.length rs → K (.v (.dat .none)) [.sl (pl.map .str), .dat (edD rs)] → call 31 [.sl (pl.map .str), .dat (edD rs)] K X
theorem chk_E (n : Nat) : ChkE (callW Pg (n + 2)) := fun pl ts rs K X h1 h2 h3 h4 h5 h6 => call_of (fn := ir_check_edition) rfl (edition_run (name_S n) (src_S n) h1 h2 h3 h4 h5 h6)
/-- a rule as the table keeps it -/
def Rl.k (r : Rl) : PyData := .tuple [.str r.col, .str r.form, .tuple (r.src.map .str), .str r.held]
def kepD (rs : List Rl) : PyData := .tuple (rs.map Rl.k)
abbrev tabM (pl : List Str) (es : List (List Rl)) : M := .ins false 110 [209, 207] [.dat (.tuple (pl.map .str)), .dat (.tuple (es.map kepD))]
theorem eqv_strs : ∀ l : List Str, PyData.eqvAll (l.map .str) (l.map .str) = true
  | [] => rfl
  | x :: r => by
    show (PyData.eqv (.str x) (.str x) && PyData.eqvAll (r.map .str) (r.map .str)) = true
    rw [eqv_strs r]
    show ((x == x) && true) = true
    simp
theorem cols_eq {ts : List Str} {cnt : Nat} {rs qs : List Rl} (v : VRs ts cnt rs) (u : VRs ts cnt qs) (e : rs.length = qs.length) : rs.map Rl.col = qs.map Rl.col := by
  refine List.ext_getElem? fun i => ?_
  rw [List.getElem?_map, List.getElem?_map]
  by_cases h : i < rs.length
  · have h2 : i < qs.length := by omega
    have c1 := (v.at_ i rs[i] (List.getElem?_eq_getElem h)).col
    have c2 := (u.at_ i qs[i] (List.getElem?_eq_getElem h2)).col
    rw [c1] at c2
    rw [List.getElem?_eq_getElem h, List.getElem?_eq_getElem h2]
    simpa using c2
  · rw [List.getElem?_eq_none (by omega), List.getElem?_eq_none (by omega)]
section
variable {Γ : Ctx} {D : Post} {m0 m1 m2 m3 m4 m5 m11 : M}
abbrev I0 (m0 m1 m2 m3 m4 m5 : M) (y6 y7 y8 y9 y10 : Option SV) : QL.Env := [sv m0, sv m1, sv m2, sv m3, sv m4, sv m5, y6, y7, y8, y9, y10, some (.al 2 [])]
/-- the comprehension over a rule's parts -/
theorem keep_run {rs : List Rl} {ks : List PyData} (hl : ks.length ≤ 100) (h : D.nx (I0 m0 m1 m2 (.sl (ks ++ [kepD rs])) m4 (.dat (edD rs)) none none none none none)) :
    exS Γ false (.ex (.bm (.x 3) .append (.cons false (.prim .tup (.cons false (.comp [7, 8, 9, 10] (.t [(.n 7), (.n 8), (.n 9), (.n 10)]) (.e (.x 5)) .none (.tup (.cons false (.x 7) (.cons false (.x 8) (.cons false (.prim .tup (.cons false (.x 9) .nil)) (.cons false (.x 10) .nil)))))) .nil)) .nil))) (I0 m0 m1 m2 (.sl ks) m4 (.dat (edD rs)) none none none none none) D := by
  refine compW_dat (fun i acc σ => ∃ y7 y8 y9 y10, acc = ((rs.take i).map Rl.k).map .dat ∧ A4 y7 y8 y9 y10 ∧ σ = I0 m0 m1 m2 (.sl ks) m4 (.dat (edD rs)) none y7 y8 y9 y10) ⟨none, none, none, none, rfl, .inl ⟨rfl, rfl, rfl, rfl⟩, rfl⟩ ?_ ?_
  · rintro i b' acc σ N hb' ⟨y7, y8, y9, y10, rfl, h4, rfl⟩ hN
    obtain ⟨r, hr, rfl⟩ : ∃ r, rs[i]? = some r ∧ b' = oneD r.d := by
      unfold walkD at hb'
      simp only [List.getElem?_map] at hb'
      cases e : rs[i]? with
      | none => rw [e] at hb'; cases hb'
      | some c => rw [e] at hb'; cases hb'; exact ⟨c, rfl, rfl⟩
    have et : ((rs.take (i + 1)).map Rl.k).map M.dat = ((rs.take i).map Rl.k).map M.dat ++ [.dat r.k] := by
      rw [List.take_succ, hr, List.map_append, List.map_append]
      rfl
    rcases h4 with ⟨rfl, rfl, rfl, rfl⟩ | ⟨n3, n4, n5, n6, rfl, rfl, rfl, rfl⟩ <;>
    · refine And.intro rfl (And.intro rfl ?_)
      refine Exists.intro _ (And.intro rfl ?_)
      refine Exists.intro _ (And.intro rfl ?_)
      refine Exists.intro _ (And.intro rfl ?_)
      refine Exists.intro _ (And.intro rfl ?_)
      exact hN [.dat r.k] _ ⟨_, _, _, _, et.symm, .inr ⟨_, _, _, _, rfl, rfl, rfl, rfl⟩, rfl⟩
  · rintro acc σ ⟨y7, y8, y9, y10, rfl, h4, rfl⟩
    refine ⟨I0 m0 m1 m2 (.sl ks) m4 (.dat (edD rs)) none none none none none, fun K' k => (by rcases h4 with ⟨rfl, rfl, rfl, rfl⟩ | ⟨n3, n4, n5, n6, rfl, rfl, rfl, rfl⟩ <;> exact k), ?_⟩
    have el : rs.take (walkD false (rs.map Rl.d)).length = rs := by
      unfold walkD
      simp
    rw [el, mkL_dat]
    exact And.intro (show ks.length < 16777216 by omega) h
end
end K02
end QL
end
section
set_option linter.all false
set_option maxRecDepth 100000
set_option maxHeartbeats 1000000
set_option autoImplicit false
namespace QL
namespace K02
open PySem PySem.Spec PyProof.Rows L2

section
variable {Γ : Ctx} {D : Post} {m0 m1 m2 m3 m4 m5 m11 : M}
theorem ok_pys (l : List Str) : okD (.list (l.map .str)) = true := ok_strs l
/-- the columns of a kept edition -/
theorem colk_run {rs : List Rl} {K : FK} {X : XP} (h : K ((rs.map Rl.col).map (fun t => .dat (.str t))) (I0 m0 m1 m2 m3 m4 m5 none none none none none)) :
    compW [6] (.n 6) (.dat ((rs.map Rl.k).map oneD)) (fun σ2 F => evC Γ false .none noX σ2 fun b σ3 => condW b (evE Γ false (.ix (.x 6) (.c (.int 0))) noX σ3 fun x σ4 => putW false x σ4 fun m σ5 => F [m] σ5) (F [] σ3)) (I0 m0 m1 m2 m3 m4 m5 none none none none none) K := by
  refine compW_dat (fun i acc σ => ∃ y, acc = ((rs.take i).map Rl.col).map (fun t => .dat (.str t)) ∧ OneV y ∧ σ = I0 m0 m1 m2 m3 m4 m5 y none none none none) ⟨none, rfl, .inl rfl, rfl⟩ ?_ ?_
  · rintro i b' acc σ N hb' ⟨y, rfl, hy, rfl⟩ hN
    obtain ⟨r, hr, rfl⟩ : ∃ r, rs[i]? = some r ∧ b' = oneD r.k := by
      simp only [List.getElem?_map] at hb'
      cases e : rs[i]? with
      | none => rw [e] at hb'; cases hb'
      | some c => rw [e] at hb'; cases hb'; exact ⟨c, rfl, rfl⟩
    have at0 : atI [PyData.str r.col, .str r.form, .tuple (r.src.map .str), .str r.held] ((0 : Nat) : Int) = some (.str r.col) := atI_nat rfl
    rcases hy with rfl | ⟨n1, rfl⟩ <;>
    · refine Exists.intro _ (And.intro at0 ?_)
      refine hN [.dat (.str r.col)] _ ⟨_, ?_, .inr ⟨_, rfl⟩, rfl⟩
      rw [List.take_succ, hr, List.map_append, List.map_append]
      rfl
  · rintro acc σ ⟨y, rfl, hy, rfl⟩
    refine ⟨I0 m0 m1 m2 m3 m4 m5 none none none none none, fun K' k => (by rcases hy with rfl | ⟨n1, rfl⟩ <;> exact k), ?_⟩
    have el : rs.take ((rs.map Rl.k).map oneD).length = rs := by simp
    rw [el]
    exact h
theorem same_run {rs qs : List Rl} {ks : List PyData} {i : Nat} {bad : Ss} (e : rs.map Rl.col = qs.map Rl.col) (h0 : ks[0]? = some (kepD qs)) (hi : ks[i]? = some (kepD rs)) (h : D.nx (I0 m0 m1 m2 (.sl ks) (iM i) m5 none none none none none)) :
    exS Γ false (.ifs (.cmp .ne (.comp [6] (.n 6) (.e (.ix (.x 3) (.x 4))) .none (.ix (.x 6) (.c (.int 0)))) (.comp [6] (.n 6) (.e (.ix (.x 3) (.c (.int 0)))) .none (.ix (.x 6) (.c (.int 0))))) bad .nil) (I0 m0 m1 m2 (.sl ks) (iM i) m5 none none none none none) D := by
  refine Exists.intro _ (And.intro (atI_nat hi) ?_)
  refine colk_run (Γ := Γ) (X := noX) ?_
  rw [mkL_strs]
  refine Exists.intro _ (And.intro (show atI ks ((0 : Nat) : Int) = _ from atI_nat h0) ?_)
  refine colk_run (Γ := Γ) (X := noX) ?_
  rw [mkL_strs]
  refine And.intro (ok_strs _) (And.intro (ok_strs _) ?_)
  refine cond_no ?_ h
  show (!(PyData.eqvAll ((rs.map Rl.col).map .str) ((qs.map Rl.col).map .str))) = false
  rw [e, eqv_strs]
  rfl
end
theorem init_run {call : Nat → List M → CK → CX → Prop} (hn : ChkN call) (he : ChkE call) {pl ts : List Str} {es : List (List Rl)} {many : Nat} {K : CK} {X : CX} (w : WF pl es ts many) (hK : K (.v (.dat .none)) [tabM pl es, .sl (pl.map .str), .sl (es.map edD)]) :
    runW (gm call) ir_Table___init__ [.ins false 110 [] [], .sl (pl.map .str), .sl (es.map edD)] K X := by
  have nmp : ∀ t ∈ pl, Nm t := fun t ht => w.nm t (by rw [w.tk] at ht; exact List.mem_of_mem_take ht)
  have ndp : pl.Nodup := by rw [w.tk]; exact w.nd.sublist (List.take_sublist _ _)
  refine hn _ _ _ nmp ndp ?_
  obtain ⟨r0, rest, e0⟩ : ∃ r0 rest, es = r0 :: rest := by
    cases es with
    | nil => exact absurd w.e1 (by simp)
    | cons a r => exact ⟨a, r, rfl⟩
  have ne : (!(!((es.map edD).isEmpty))) = false := by rw [e0]; rfl
  refine cond_no ne ?_
  refine forO_ind (fun i σ => ∃ y4 y5, T2 y4 y5 ∧ (0 < i → ∃ m4 m5, y4 = sv m4 ∧ y5 = sv m5) ∧ σ = [sv (.ins false 110 [] []), sv (.sl (pl.map .str)), sv (.sl (es.map edD)), sv (.sl ((es.take i).map kepD)), y4, y5, none, none, none, none, none, some (.al 2 [])]) ⟨none, none, .inl ⟨rfl, rfl⟩, (fun h => by omega), rfl⟩ ?_ ?_
  · rintro i σ N hi ⟨y4, y5, h2, _, rfl⟩ hN
    rw [List.length_map] at hi
    obtain ⟨rs, hrs⟩ : ∃ rs, es[i]? = some rs := ⟨es[i], List.getElem?_eq_getElem hi⟩
    have e : (es.map edD)[i]? = some (edD rs) := by rw [List.getElem?_map, hrs]; rfl
    obtain ⟨hl1, v1⟩ := w.es rs (List.mem_of_getElem? hrs)
    obtain ⟨hl0, v0⟩ := w.es r0 (by rw [e0]; simp)
    have et : (es.take (i + 1)).map kepD = (es.take i).map kepD ++ [kepD rs] := by
      rw [List.take_succ, hrs, List.map_append]
      rfl
    have hlen : ((es.take i).map kepD).length ≤ 100 := by
      rw [List.length_map, List.length_take]
      have := w.e2
      omega
    have hi' : ((es.take i).map kepD ++ [kepD rs])[i]? = some (kepD rs) := by
      rw [List.getElem?_append_right (by rw [List.length_map, List.length_take]; omega), List.length_map, List.length_take, Nat.min_eq_left (by omega), Nat.sub_self]
      rfl
    have h0' : ((es.take i).map kepD ++ [kepD rs])[0]? = some (kepD r0) := by
      rw [← et, List.getElem?_map, List.getElem?_take_of_lt (by omega), e0]
      rfl
    have fin := hN [sv (.ins false 110 [] []), sv (.sl (pl.map .str)), sv (.sl (es.map edD)), sv (.sl ((es.take i).map kepD ++ [kepD rs])), sv (iM i), sv (.dat (edD rs)), none, none, none, none, none, some (.al 2 [])] ⟨_, _, .inr ⟨_, _, rfl, rfl⟩, (fun _ => ⟨_, _, rfl, rfl⟩), by rw [et]⟩
    have step : ∀ D : Post, D.nx = N → exSs (gm call) false (.cons (.ex (.bm (.x 3) .append (.cons false (.prim .tup (.cons false (.comp [7, 8, 9, 10] (.t [(.n 7), (.n 8), (.n 9), (.n 10)]) (.e (.x 5)) .none (.tup (.cons false (.x 7) (.cons false (.x 8) (.cons false (.prim .tup (.cons false (.x 9) .nil)) (.cons false (.x 10) .nil)))))) .nil)) .nil)))
 (.cons (.ifs (.cmp .ne (.comp [6] (.n 6) (.e (.ix (.x 3) (.x 4))) .none (.ix (.x 6) (.c (.int 0)))) (.comp [6] (.n 6) (.e (.ix (.x 3) (.c (.int 0)))) .none (.ix (.x 6) (.c (.int 0)))))
 (.cons (.raise 104 (.x 4))
 .nil)
 .nil)
 .nil)) (I0 (.ins false 110 [] []) (.sl (pl.map .str)) (.sl (es.map edD)) (.sl ((es.take i).map kepD)) (iM i) (.dat (edD rs)) none none none none none) D := fun D eD => by
      refine keep_run hlen ?_
      refine same_run (cols_eq v1 v0 (by omega)) h0' hi' ?_
      show D.nx _
      rw [eD]
      exact fin
    rcases h2 with ⟨rfl, rfl⟩ | ⟨m1, m2, rfl, rfl⟩ <;>
    · refine And.intro trivial (And.intro rfl ?_)
      refine Exists.intro _ (And.intro e ?_)
      refine And.intro rfl ?_
      refine he _ ts _ _ _ w.tk w.nm w.nd (by have := w.l2; omega) v1 ?_
      exact step _ rfl
  · rintro σ ⟨y4, y5, h2, h3, rfl⟩
    rw [List.length_map] at h3
    obtain ⟨m4, m5, rfl, rfl⟩ := h3 (by have := w.e1; omega)
    have el : es.take (es.map edD).length = es := by simp
    rw [el]
    exact And.intro trivial (And.intro rfl hK)
theorem init_ok {n : Nat} {pl ts : List Str} {es : List (List Rl)} {many : Nat} {K : CK} {X : CX} (w : WF pl es ts many) (hK : K (.v (.dat .none)) [tabM pl es, .sl (pl.map .str), .sl (es.map edD)]) :
    callW Pg (n + 3) 32 [.ins false 110 [] [], .sl (pl.map .str), .sl (es.map edD)] K X := call_of (fn := ir_Table___init__) rfl (init_run (chk_N n) (chk_E n) w hK)
end K02
end QL
end
section
set_option linter.all false
set_option maxRecDepth 100000
set_option maxHeartbeats 1000000
set_option autoImplicit false
namespace QL
namespace K02
open PySem PySem.Spec PyProof.Rows L2

theorem plain_ok {n : Nat} {pl : List Str} {es : List (List Rl)} {K : CK} {X : CX} (hK : K (.v (.sl (pl.map .str))) [tabM pl es]) : callW Pg (n + 1) 33 [tabM pl es] K X :=
  call_of (fn := ir_Table_plain) rfl hK
theorem len_ok {n : Nat} {pl : List Str} {es : List (List Rl)} {K : CK} {X : CX} (hK : K (.v (.dat (.int (es.length : Nat)))) [tabM pl es]) : callW Pg (n + 1) 38 [tabM pl es] K X := by
  refine call_of (fn := ir_Table___len__) rfl ?_
  have e : ((es.map kepD).length : Int) = (es.length : Int) := by rw [List.length_map]
  show K (.v (.dat (.int ((es.map kepD).length : Nat)))) [tabM pl es]
  rw [e]
  exact hK
/-- a rule as it is told -/
def rM (r : Rl) : M := .tup [.dat (.str r.col), .dat (.str r.form), .sl (r.src.map .str), .dat (.str r.held)]
def edM : List Rl → M
  | [] => .sl []
  | r :: rs => .lst ((r :: rs).map rM)
theorem mkL_rM : ∀ rs : List Rl, mkL (rs.map rM) = edM rs
  | [] => rfl
  | _ :: _ => rfl
/-- an own list of own things -/
def ownL : List M → M
  | [] => .sl []
  | m :: r => .lst (m :: r)
theorem keys_get {α : Type} {f : α → PyData} {l : List α} {i : Nat} {b : BV} (h : ((l.map f).map oneD)[i]? = some b) : ∃ r, l[i]? = some r ∧ b = oneD (f r) := by
  simp only [List.getElem?_map] at h
  cases e : l[i]? with
  | none => rw [e] at h; cases h
  | some c => rw [e] at h; cases h; exact ⟨c, rfl, rfl⟩
theorem editions_ok {n : Nat} {pl : List Str} {es : List (List Rl)} {K : CK} {X : CX} (hl : es.length ≤ 100) (hK : K (.v (ownL (es.map edM))) [tabM pl es]) : callW Pg (n + 1) 34 [tabM pl es] K X := by
  refine call_of (fn := ir_Table_editions) rfl ?_
  refine forD_ind _ (fun i σ => ∃ y, OneV y ∧ σ = [sv (tabM pl es), sv (ownL ((es.take i).map edM)), y, none, none, none, none]) ⟨none, .inl rfl, rfl⟩ ?_ ?_
  · rintro i b' σ N hb' ⟨y, hy, rfl⟩ hN
    obtain ⟨rs, hrs, rfl⟩ := keys_get hb'
    have et : (es.take (i + 1)).map edM = (es.take i).map edM ++ [edM rs] := by
      rw [List.take_succ, hrs, List.map_append]
      rfl
    have hlen : ((es.take i).map edM).length ≤ 100 := by
      rw [List.length_map, List.length_take]
      omega
    have fin : ∀ ms : List M, ms.length ≤ 100 → N [sv (tabM pl es), sv (ownL (ms ++ [edM rs])), sv (.dat (kepD rs)), none, none, none, none] → exS (gam Pg n) true (.ex (.bm (.x 1) .append (.cons false (.comp [3, 4, 5, 6] (.t [(.n 3), (.n 4), (.n 5), (.n 6)]) (.e (.x 2)) .none (.tup (.cons false (.x 3) (.cons false (.x 4) (.cons false (.prim .lst (.cons false (.x 5) .nil)) (.cons false (.x 6) .nil)))))) .nil)))
        [sv (tabM pl es), sv (ownL ms), sv (.dat (kepD rs)), none, none, none, none] { nx := N, rt := finishW ir_Table_editions [tabM pl es] K, bk := fun _ => False, ct := N, ex := fun _ _ _ => False } := fun ms hm hN => by
      have ms_case : ∃ M1, ownL ms = M1 ∧ ((ms = [] ∧ M1 = .sl []) ∨ ∃ m r, ms = m :: r ∧ M1 = .lst (m :: r)) := by
        cases ms with
        | nil => exact ⟨_, rfl, .inl ⟨rfl, rfl⟩⟩
        | cons m r => exact ⟨_, rfl, .inr ⟨m, r, rfl, rfl⟩⟩
      obtain ⟨M1, eM, hM⟩ := ms_case
      rw [eM]
      rcases hM with ⟨rfl, rfl⟩ | ⟨m, r, rfl, rfl⟩ <;>
      · refine compW_dat (fun i acc σ => ∃ y3 y4 y5 y6, acc = (rs.take i).map rM ∧ A4 y3 y4 y5 y6 ∧ σ = [sv (tabM pl es), sv _, sv (.dat (kepD rs)), y3, y4, y5, y6]) ⟨none, none, none, none, rfl, .inl ⟨rfl, rfl, rfl, rfl⟩, rfl⟩ ?_ ?_
        · rintro i b' acc σ N hb' ⟨y3, y4, y5, y6, rfl, h4, rfl⟩ hN
          obtain ⟨r, hr, rfl⟩ := keys_get hb'
          have et : (rs.take (i + 1)).map rM = (rs.take i).map rM ++ [rM r] := by
            rw [List.take_succ, hr, List.map_append]
            rfl
          rcases h4 with ⟨rfl, rfl, rfl, rfl⟩ | ⟨n3, n4, n5, n6, rfl, rfl, rfl, rfl⟩ <;>
          · refine And.intro rfl (And.intro rfl ?_)
            refine Exists.intro _ (And.intro rfl ?_)
            refine Exists.intro _ (And.intro rfl ?_)
            refine Exists.intro _ (And.intro rfl ?_)
            refine Exists.intro _ (And.intro rfl ?_)
            exact hN [rM r] _ ⟨_, _, _, _, et.symm, .inr ⟨_, _, _, _, rfl, rfl, rfl, rfl⟩, rfl⟩
        · rintro acc σ ⟨y3, y4, y5, y6, rfl, h4, rfl⟩
          refine ⟨[sv (tabM pl es), sv _, sv (.dat (kepD rs)), none, none, none, none], fun K' k => (by rcases h4 with ⟨rfl, rfl, rfl, rfl⟩ | ⟨n3, n4, n5, n6, rfl, rfl, rfl, rfl⟩ <;> exact k), ?_⟩
          have el : rs.take ((rs.map Rl.k).map oneD).length = rs := by simp
          rw [el, mkL_rM]
          cases rs with
          | nil => exact And.intro (by first | exact (show (0 : Nat) < 16777216 by decide) | exact (show (r.length + 1) < 16777216 by simp at hm; omega)) hN
          | cons a b => exact And.intro (by first | exact (show (0 : Nat) < 16777216 by decide) | exact (show (r.length + 1) < 16777216 by simp at hm; omega)) hN
    have fin := fin _ hlen (by
      rw [← et]
      exact hN _ ⟨_, .inr ⟨_, rfl⟩, rfl⟩)
    have oc : ∃ M1, ownL ((es.take i).map edM) = M1 := ⟨_, rfl⟩
    obtain ⟨M1, eM⟩ := oc
    rw [eM] at fin ⊢
    rcases hy with rfl | ⟨m, rfl⟩ <;> exact fin
  · rintro σ ⟨y, hy, rfl⟩
    have el : es.take ((es.map kepD).map oneD).length = es := by simp
    rw [el]
    cases es <;> rcases hy with rfl | ⟨m, rfl⟩ <;> exact hK
theorem columns_ok {n : Nat} {pl : List Str} {rs : List Rl} {es : List (List Rl)} {K : CK} {X : CX} (hK : K (.v (.sl ((rs.map Rl.col).map .str))) [tabM pl (rs :: es)]) : callW Pg (n + 1) 35 [tabM pl (rs :: es)] K X := by
  refine call_of (fn := ir_Table_columns) rfl ?_
  refine Exists.intro _ (And.intro (show atI ((rs :: es).map kepD) ((0 : Nat) : Int) = some (kepD rs) from atI_nat rfl) ?_)
  refine compW_dat (fun i acc σ => ∃ y, acc = ((rs.take i).map Rl.col).map (fun t => .dat (.str t)) ∧ OneV y ∧ σ = [sv (tabM pl (rs :: es)), y]) ⟨none, rfl, .inl rfl, rfl⟩ ?_ ?_
  · rintro i b' acc σ N hb' ⟨y, rfl, hy, rfl⟩ hN
    obtain ⟨r, hr, rfl⟩ := keys_get hb'
    have at0 : atI [PyData.str r.col, .str r.form, .tuple (r.src.map .str), .str r.held] ((0 : Nat) : Int) = some (.str r.col) := atI_nat rfl
    rcases hy with rfl | ⟨n1, rfl⟩ <;>
    · refine Exists.intro _ (And.intro at0 ?_)
      refine hN [.dat (.str r.col)] _ ⟨_, ?_, .inr ⟨_, rfl⟩, rfl⟩
      rw [List.take_succ, hr, List.map_append, List.map_append]
      rfl
  · rintro acc σ ⟨y, rfl, hy, rfl⟩
    refine ⟨[sv (tabM pl (rs :: es)), none], fun K' k => (by rcases hy with rfl | ⟨n1, rfl⟩ <;> exact k), ?_⟩
    have el : rs.take ((rs.map Rl.k).map oneD).length = rs := by simp
    rw [el, mkL_strs]
    exact hK
theorem deeds_ok {n : Nat} {pl : List Str} {rs : List Rl} {es : List (List Rl)} {K : CK} {X : CX} (hl : pl.length ≤ 100) (hl2 : rs.length ≤ 100) (hK : K (.v (.sl (deedsD pl rs))) [tabM pl (rs :: es)]) : callW Pg (n + 1) 40 [tabM pl (rs :: es)] K X := by
  refine call_of (fn := ir_Table_deeds) rfl ?_
  refine compW_dat (fun i acc σ => ∃ (y : Option SV), acc = ((pl.take i).map (fun t => PyData.tuple [.str (Str.ofString "set"), .str t])).map .dat ∧ OneV y ∧ σ = [sv (tabM pl (rs :: es)), sv (.sl [.tuple [.str (Str.ofString "put")]]), y, none]) ⟨none, rfl, .inl rfl, rfl⟩ ?_ ?_
  · rintro i b' acc σ N hb' ⟨y, rfl, hy, rfl⟩ hN
    obtain ⟨t, ht, rfl⟩ := keys_get hb'
    rcases hy with rfl | ⟨m2, rfl⟩ <;>
    · refine hN [.dat (.tuple [.str (Str.ofString "set"), .str t])] _ ⟨_, ?_, .inr ⟨_, rfl⟩, rfl⟩
      rw [List.take_succ, ht, List.map_append, List.map_append]
      rfl
  · rintro acc σ ⟨y, rfl, hy, rfl⟩
    refine ⟨[sv (tabM pl (rs :: es)), sv (.sl [.tuple [.str (Str.ofString "put")]]), none, none], fun K' k => (by rcases hy with rfl | ⟨m2, rfl⟩ <;> exact k), ?_⟩
    have el : pl.take ((pl.map PyData.str).map oneD).length = pl := by simp
    rw [el, mkL_dat]
    refine And.intro (show 1 + (pl.map _).length ≤ 16777216 by rw [List.length_map]; omega) ?_
    refine Exists.intro _ (And.intro (show atI ((rs :: es).map kepD) ((0 : Nat) : Int) = some (kepD rs) from atI_nat rfl) ?_)
    refine compW_dat (fun i acc σ => ∃ (y : Option SV), acc = ((rs.take i).map (fun r => PyData.tuple [.str (Str.ofString "rewrite"), .str r.col])).map .dat ∧ OneV y ∧ σ = [sv (tabM pl (rs :: es)), sv (.sl ([.tuple [.str (Str.ofString "put")]] ++ pl.map (fun t => .tuple [.str (Str.ofString "set"), .str t]))), none, y]) ⟨none, rfl, .inl rfl, rfl⟩ ?_ ?_
    · rintro i b' acc σ N hb' ⟨y, rfl, hy, rfl⟩ hN
      obtain ⟨r, hr, rfl⟩ := keys_get hb'
      have at0 : atI [PyData.str r.col, .str r.form, .tuple (r.src.map .str), .str r.held] ((0 : Nat) : Int) = some (.str r.col) := atI_nat rfl
      rcases hy with rfl | ⟨m2, rfl⟩ <;>
      · refine Exists.intro _ (And.intro at0 ?_)
        refine hN [.dat (.tuple [.str (Str.ofString "rewrite"), .str r.col])] _ ⟨_, ?_, .inr ⟨_, rfl⟩, rfl⟩
        rw [List.take_succ, hr, List.map_append, List.map_append]
        rfl
    · rintro acc σ ⟨y, rfl, hy, rfl⟩
      refine ⟨[sv (tabM pl (rs :: es)), sv (.sl ([.tuple [.str (Str.ofString "put")]] ++ pl.map (fun t => .tuple [.str (Str.ofString "set"), .str t]))), none, none], fun K' k => (by rcases hy with rfl | ⟨m2, rfl⟩ <;> exact k), ?_⟩
      have el : rs.take ((rs.map Rl.k).map oneD).length = rs := by simp
      rw [el, mkL_dat]
      refine And.intro (show ([_] ++ pl.map _).length + (rs.map _).length ≤ 16777216 by simp; omega) ?_
      refine And.intro (show ([_] ++ pl.map _ ++ rs.map _).length < 16777216 by simp; omega) ?_
      exact hK
/-- a rule as an item tells it -/
def itM (r : Rl) : M := .tup [.dat (.str r.form), .sl (r.src.map .str), .dat (.str r.held)]
def itD (r : Rl) : PyData := .tuple [.str r.form, .list (r.src.map .str), .str r.held]
theorem pys_it : ∀ l : List Rl, M.pys (l.map itM) = some (l.map itD)
  | [] => rfl
  | r :: l => by
    rw [List.map_cons]
    unfold M.pys
    rw [pys_it l]
    rfl
theorem dep_it (r : Rl) : dep (itD r) = 2 := by
  show max 0 (max (depAll (r.src.map PyData.str) + 1) (max 0 0)) + 1 = 2
  rw [dep_str]
  rfl
theorem dep_its : ∀ rs : List Rl, depAll (rs.map itD) ≤ 2
  | [] => by decide
  | r :: rs => by
    rw [List.map_cons]
    unfold depAll
    rw [dep_it]
    exact Nat.max_le.mpr ⟨Nat.le_refl 2, dep_its rs⟩
theorem ok_its (rs : List Rl) : okD (.list (rs.map itD)) = true := by
  unfold okD
  have := dep_its rs
  exact Nat.ble_eq_true_of_le (by show depAll (rs.map itD) + 1 ≤ 64; omega)
def selR (x : Str) (es : List (List Rl)) : List Rl := es.flatMap fun rs => rs.filter fun r => decide (r.col = x)
theorem ownL_case (ms : List M) : (ms = [] ∧ ownL ms = .sl []) ∨ ∃ m r, ms = m :: r ∧ ownL ms = .lst (m :: r) := by
  cases ms with
  | nil => exact .inl ⟨rfl, rfl⟩
  | cons m r => exact .inr ⟨m, r, rfl, rfl⟩
theorem inner_run {Γ : Ctx} {D : Post} {m0 : M} {x : Str} {rs L : List Rl} {y4 y5 y6 y7 : Option SV} (h4 : A4 y4 y5 y6 y7) (hl : L.length + rs.length ≤ 10000) (h : ∀ z4 z5 z6 z7, A4 z4 z5 z6 z7 → D.nx [sv m0, sv (.dat (.str x)), sv (ownL ((L ++ rs.filter fun r => decide (r.col = x)).map itM)), sv (.dat (kepD rs)), z4, z5, z6, z7]) :
    exS Γ true (.for (.t [(.n 4), (.n 5), (.n 6), (.n 7)]) (.e (.x 3)) (.cons (.ifs (.cmp .eq (.x 4) (.x 1)) (.cons (.ex (.bm (.x 2) .append (.cons false (.tup (.cons false (.x 5) (.cons false (.prim .lst (.cons false (.x 6) .nil)) (.cons false (.x 7) .nil)))) .nil))) .nil) .nil) .nil))
      [sv m0, sv (.dat (.str x)), sv (ownL (L.map itM)), sv (.dat (kepD rs)), y4, y5, y6, y7] D := by
  have go : forD (.t [(.n 4), (.n 5), (.n 6), (.n 7)]) (exSs Γ true (.cons (.ifs (.cmp .eq (.x 4) (.x 1)) (.cons (.ex (.bm (.x 2) .append (.cons false (.tup (.cons false (.x 5) (.cons false (.prim .lst (.cons false (.x 6) .nil)) (.cons false (.x 7) .nil)))) .nil))) .nil) .nil) .nil)) ((rs.map Rl.k).map oneD) [sv m0, sv (.dat (.str x)), sv (ownL (L.map itM)), sv (.dat (kepD rs)), y4, y5, y6, y7] D := by
    refine forD_ind _ (fun i σ => ∃ z4 z5 z6 z7, A4 z4 z5 z6 z7 ∧ σ = [sv m0, sv (.dat (.str x)), sv (ownL ((L ++ (rs.take i).filter fun r => decide (r.col = x)).map itM)), sv (.dat (kepD rs)), z4, z5, z6, z7]) ⟨_, _, _, _, h4, by simp⟩ ?_ ?_
    · rintro i b' σ N hb' ⟨z4, z5, z6, z7, h4, rfl⟩ hN
      obtain ⟨r, hr, rfl⟩ := keys_get hb'
      have hi : i < rs.length := (List.getElem?_eq_some_iff.mp hr).1
      have ef : (rs.take (i + 1)).filter (fun r => decide (r.col = x)) = (rs.take i).filter (fun r => decide (r.col = x)) ++ (if r.col = x then [r] else []) := by
        rw [List.take_succ, hr, List.filter_append]
        by_cases z : r.col = x <;> simp [z]
      have hlen : ((L ++ (rs.take i).filter fun r => decide (r.col = x)).map itM).length ≤ 10000 := by
        rw [List.length_map, List.length_append]
        have := List.length_filter_le (fun r => decide (r.col = x)) (rs.take i)
        rw [List.length_take] at this
        omega
      have fy : r.col = x → N [sv m0, sv (.dat (.str x)), sv (ownL ((L ++ (rs.take i).filter fun r => decide (r.col = x)).map itM ++ [itM r])), sv (.dat (kepD rs)), sv (.dat (.str r.col)), sv (.dat (.str r.form)), sv (.dat (.tuple (r.src.map .str))), sv (.dat (.str r.held))] := fun e => by
        refine hN _ ⟨_, _, _, _, .inr ⟨.dat (.str r.col), .dat (.str r.form), .dat (.tuple (r.src.map .str)), .dat (.str r.held), rfl, rfl, rfl, rfl⟩, ?_⟩
        rw [ef, if_pos e, ← List.append_assoc, List.map_append (l₂ := [r])]
        rfl
      have fn : ¬ r.col = x → N [sv m0, sv (.dat (.str x)), sv (ownL ((L ++ (rs.take i).filter fun r => decide (r.col = x)).map itM)), sv (.dat (kepD rs)), sv (.dat (.str r.col)), sv (.dat (.str r.form)), sv (.dat (.tuple (r.src.map .str))), sv (.dat (.str r.held))] := fun e => by
        refine hN _ ⟨_, _, _, _, .inr ⟨.dat (.str r.col), .dat (.str r.form), .dat (.tuple (r.src.map .str)), .dat (.str r.held), rfl, rfl, rfl, rfl⟩, ?_⟩
        rw [ef, if_neg e, List.append_nil]
      generalize (L ++ (rs.take i).filter fun r => decide (r.col = x)).map itM = ms at hlen fy fn ⊢
      rcases ownL_case ms with ⟨rfl, eM⟩ | ⟨m, q, rfl, eM⟩ <;> rw [eM] at fn ⊢ <;>
      rcases h4 with ⟨rfl, rfl, rfl, rfl⟩ | ⟨n3, n4, n5, n6, rfl, rfl, rfl, rfl⟩ <;>
      · refine And.intro rfl (And.intro rfl ?_)
        refine Exists.intro _ (And.intro rfl ?_)
        refine Exists.intro _ (And.intro rfl ?_)
        refine Exists.intro _ (And.intro rfl ?_)
        refine Exists.intro _ (And.intro rfl ?_)
        refine And.intro rfl (And.intro rfl ?_)
        refine cond_split (fun e => ?_) (fun e => ?_)
        · have e : r.col = x := by
            have e : (r.col == x) = true := e
            simpa using e
          exact And.intro (by first | exact (show (0 : Nat) < 16777216 by decide) | exact (show (q.length + 1) < 16777216 by simp at hlen; omega)) (fy e)
        · have e : ¬ r.col = x := by
            have e : (r.col == x) = false := e
            simpa using e
          exact fn e
    · rintro σ ⟨z4, z5, z6, z7, h4, rfl⟩
      have el : rs.take ((rs.map Rl.k).map oneD).length = rs := by simp
      rw [el]
      exact h _ _ _ _ h4
  rcases ownL_case (L.map itM) with ⟨e, eM⟩ | ⟨m, q, e, eM⟩ <;> rw [eM] at go ⊢ <;> rcases h4 with ⟨rfl, rfl, rfl, rfl⟩ | ⟨n3, n4, n5, n6, rfl, rfl, rfl, rfl⟩ <;> exact go
theorem getitem_ok {n : Nat} {pl : List Str} {es : List (List Rl)} {x : Str} {many : Nat} {K : CK} {X : CX} (hl : es.length ≤ 20) (hm : many ≤ 20) (he : ∀ rs ∈ es, rs.length = many)
    (hK : selR x es ≠ [] → K (.v (ownL ((selR x es).map itM))) [tabM pl es, .dat (.str x)]) (hX : selR x es = [] → X 103 (.dat (.str x)) [tabM pl es, .dat (.str x)]) : callW Pg (n + 1) 36 [tabM pl es, .dat (.str x)] K X := by
  refine call_of (fn := ir_Table___getitem__) rfl ?_
  have sel_len : ∀ i, (selR x (es.take i)).length ≤ 20 * i := fun i => by
    induction i with
    | zero => simp [selR]
    | succ i ih =>
      rw [List.take_succ]
      unfold selR at ih ⊢
      rw [List.flatMap_append, List.length_append]
      cases e : es[i]? with
      | none =>
        show (List.flatMap _ (List.take i es)).length + 0 ≤ _
        omega
      | some rs =>
        have := he rs (List.mem_of_getElem? e)
        have := List.length_filter_le (fun r : Rl => decide (r.col = x)) rs
        show (List.flatMap _ (List.take i es)).length + (List.filter (fun r : Rl => decide (r.col = x)) rs ++ []).length ≤ _
        rw [List.append_nil]
        omega
  refine forD_ind _ (fun i σ => ∃ y3 y4 y5 y6 y7, OneV y3 ∧ A4 y4 y5 y6 y7 ∧ σ = [sv (tabM pl es), sv (.dat (.str x)), sv (ownL ((selR x (es.take i)).map itM)), y3, y4, y5, y6, y7]) ⟨none, none, none, none, none, .inl rfl, .inl ⟨rfl, rfl, rfl, rfl⟩, rfl⟩ ?_ ?_
  · rintro i b' σ N hb' ⟨y3, y4, y5, y6, y7, h3, h4, rfl⟩ hN
    obtain ⟨rs, hrs, rfl⟩ := keys_get hb'
    have hi : i < es.length := (List.getElem?_eq_some_iff.mp hrs).1
    have et : selR x (es.take (i + 1)) = selR x (es.take i) ++ rs.filter fun r => decide (r.col = x) := by
      rw [List.take_succ, hrs]
      unfold selR
      rw [List.flatMap_append]
      simp
    have step : ∀ D : Post, D.nx = N → exS (gam Pg n) true (.for (.t [(.n 4), (.n 5), (.n 6), (.n 7)]) (.e (.x 3)) (.cons (.ifs (.cmp .eq (.x 4) (.x 1)) (.cons (.ex (.bm (.x 2) .append (.cons false (.tup (.cons false (.x 5) (.cons false (.prim .lst (.cons false (.x 6) .nil)) (.cons false (.x 7) .nil)))) .nil))) .nil) .nil) .nil))
      [sv (tabM pl es), sv (.dat (.str x)), sv (ownL ((selR x (es.take i)).map itM)), sv (.dat (kepD rs)), y4, y5, y6, y7] D := fun D eD => by
      refine inner_run h4 ?_ (fun z4 z5 z6 z7 h4' => ?_)
      · have := sel_len i
        have := he rs (List.mem_of_getElem? hrs)
        omega
      · rw [eD, ← et]
        exact hN _ ⟨_, _, _, _, _, .inr ⟨_, rfl⟩, h4', rfl⟩
    generalize ownL ((selR x (es.take i)).map itM) = MM at step ⊢
    rcases h3 with rfl | ⟨n3, rfl⟩ <;> rcases h4 with ⟨rfl, rfl, rfl, rfl⟩ | ⟨n4, n5, n6, n7, rfl, rfl, rfl, rfl⟩ <;> exact step _ rfl
  · rintro σ ⟨y3, y4, y5, y6, y7, h3, h4, rfl⟩
    have el : es.take ((es.map kepD).map oneD).length = es := by simp
    rw [el]
    by_cases hz : selR x es = []
    · have fX := hX hz
      rw [hz]
      rcases h3 with rfl | ⟨n3, rfl⟩ <;> rcases h4 with ⟨rfl, rfl, rfl, rfl⟩ | ⟨n4, n5, n6, n7, rfl, rfl, rfl, rfl⟩ <;> exact And.intro rfl (And.intro rfl fX)
    · have fK := hK hz
      have pj := pys_it (selR x es)
      have oj := ok_its (selR x es)
      have ne : ((PyData.list ((selR x es).map itD)).eqv (.list [])) = false := by
        cases e : selR x es with
        | nil => exact absurd e hz
        | cons a b => rfl
      generalize (selR x es).map itM = ms at pj fK ⊢
      have hms : ms ≠ [] := fun e => by
        rw [e] at pj
        cases e2 : selR x es with
        | nil => exact hz e2
        | cons a b => rw [e2] at pj; cases pj
      rcases ownL_case ms with ⟨rfl, eM⟩ | ⟨m, q, rfl, eM⟩
      · exact absurd rfl hms
      · rw [eM] at fK ⊢
        rcases h3 with rfl | ⟨n3, rfl⟩ <;> rcases h4 with ⟨rfl, rfl, rfl, rfl⟩ | ⟨n4, n5, n6, n7, rfl, rfl, rfl, rfl⟩ <;>
        · refine Exists.intro _ (And.intro pj ?_)
          refine And.intro oj (And.intro rfl ?_)
          exact cond_no ne fK
end K02
end QL
end
section
set_option linter.all false
set_option maxRecDepth 100000
set_option maxHeartbeats 1000000
/-! PB0: walks by what is ahead. -/
namespace QL
open PySem PySem.Spec PyProof.Rows L2

/-- what a walk hands out, each by what is ahead of it -/
def encs {α : Type} (enc : List α → α → BV) : List α → List α → List BV
  | _, [] => []
  | p, a :: r => enc p a :: encs enc (p ++ [a]) r
theorem encs_map {α : Type} (enc : α → BV) : ∀ (p l : List α), l.map enc = encs (fun _ a => enc a) p l
  | _, [] => rfl
  | p, a :: r => by
    show enc a :: r.map enc = enc a :: encs _ (p ++ [a]) r
    rw [encs_map enc (p ++ [a]) r]
theorem encs_numb {α : Type} (g : α → D) : ∀ (p l : List α), numbD p.length (l.map g) = encs (fun p a => .two (.v (.dat (.int (p.length : Nat)))) (.v (.dat (g a)))) p l
  | _, [] => rfl
  | p, a :: r => by
    have := encs_numb g (p ++ [a]) r
    rw [List.length_append] at this
    show _ :: numbD (p.length + 1) (r.map g) = _ :: encs _ (p ++ [a]) r
    rw [← this]
    rfl
theorem encs_pair {α : Type} (g h : α → D) : ∀ (p l : List α), pairD (l.map g) (l.map h) = encs (fun _ a => .two (.v (.dat (g a))) (.v (.dat (h a)))) p l
  | _, [] => rfl
  | p, a :: r => by
    show _ :: pairD (r.map g) (r.map h) = _ :: encs _ (p ++ [a]) r
    rw [encs_pair g h (p ++ [a]) r]
theorem encs_range (lo : Int) : ∀ (n k : Nat), rangeD (lo + (k : Nat)) n = encs (fun p _ => oneD (.int (lo + (p.length : Nat)))) (List.replicate k ()) (List.replicate n ())
  | 0, _ => rfl
  | n + 1, k => by
    have := encs_range lo n (k + 1)
    show oneD (.int (lo + (k : Nat))) :: rangeD (lo + (k : Nat) + 1) n = oneD (.int (lo + ((List.replicate k ()).length : Nat))) :: encs _ (List.replicate k () ++ [()]) (List.replicate n ())
    rw [← List.replicate_succ', ← this, List.length_replicate]
    congr 2
    push_cast
    omega
theorem encs_range0 (n : Nat) : rangeD 0 n = encs (fun p _ => oneD (.int (p.length : Nat))) [] (List.replicate n ()) := by
  have := encs_range 0 n 0
  simp only [Int.zero_add] at this
  exact this
/-- a walk over what was handed out -/
theorem forD_gen {α : Type} {t : Tg} {body : QL.Env → Post → Prop} {D : Post} {L : List BV} (l : List α) (enc : List α → α → BV) (hL : L = encs enc [] l) (S : List α → QL.Env → Prop) {σ : QL.Env} (h0 : S [] σ)
    (hs : ∀ p a r, l = p ++ a :: r → ∀ σ, S p σ → ∀ N : QL.Env → Prop, (∀ σ2, S (p ++ [a]) σ2 → N σ2) → bindBW t (enc p a) σ fun σ1 => body σ1 (D.loop N)) (he : ∀ σ, S l σ → D.nx σ) : forD t body L σ D := by
  subst hL
  have key : ∀ (r p : List α), l = p ++ r → ∀ σ, S p σ → forD t body (encs enc p r) σ D := fun r => by
    induction r with
    | nil =>
      intro p e σ h
      rw [List.append_nil] at e
      subst e
      exact he σ h
    | cons a r ih =>
      intro p e σ h
      exact hs p a r e σ h _ fun σ2 h2 => ih (p ++ [a]) (by rw [e]; simp) σ2 h2
  exact key l [] rfl σ h0
/-- .. whose slots are told by what is ahead -/
theorem forD_det {α : Type} {t : Tg} {body : QL.Env → Post → Prop} {D : Post} {L : List BV} (l : List α) (enc : List α → α → BV) (hL : L = encs enc [] l) (f : List α → QL.Env) {σ : QL.Env} (h0 : σ = f [])
    (hs : ∀ p a r, l = p ++ a :: r → ∀ N : QL.Env → Prop, N (f (p ++ [a])) → bindBW t (enc p a) (f p) fun σ1 => body σ1 (D.loop N)) (he : D.nx (f l)) : forD t body L σ D :=
  forD_gen l enc hL (fun p σ => σ = f p) h0 (fun p a r e σ h N hN => by subst h; exact hs p a r e N (hN _ rfl)) (fun σ h => by subst h; exact he)
theorem forD_inv {β : Type} {t : Tg} {body : QL.Env → Post → Prop} {D : Post} {α : Type} {L : List BV} (l : List α) (enc : List α → α → BV) (hL : L = encs enc [] l) (f : List α → β → QL.Env) (P : List α → β → Prop) {σ : QL.Env} (b0 : β) (h0 : σ = f [] b0) (p0 : P [] b0)
    (hs : ∀ p a r, l = p ++ a :: r → ∀ b, P p b → ∀ N : QL.Env → Prop, (∀ b', P (p ++ [a]) b' → N (f (p ++ [a]) b')) → bindBW t (enc p a) (f p b) fun σ1 => body σ1 (D.loop N)) (he : ∀ b, P l b → D.nx (f l b)) : forD t body L σ D :=
  forD_gen l enc hL (fun p σ => ∃ b, P p b ∧ σ = f p b) ⟨b0, p0, h0⟩ (fun p a r e σ ⟨b, h, es⟩ N hN => by subst es; exact hs p a r e b h N fun b' h' => hN _ ⟨b', h', rfl⟩) (fun σ ⟨b, h, es⟩ => by subst es; exact he b h)
/-- a walk over an own thing -/
theorem forO_gen {α : Type} {t : Tg} {body : QL.Env → Post → Prop} {D : Post} {n : Nat} {tp en : Bool} (l : List α) (hn : n = l.length) (S : List α → QL.Env → Prop) {σ : QL.Env} (h0 : S [] σ)
    (hs : ∀ p a r, l = p ++ a :: r → ∀ σ, S p σ → ∀ N : QL.Env → Prop, (∀ σ2, S (p ++ [a]) σ2 → N σ2) → itemW n tp en p.length σ fun b => bindBW t b σ fun σ1 => body σ1 (D.loop N))
    (he : ∀ σ, S l σ → endW n tp σ (D.nx σ)) : forO t body n tp en n σ D := by
  subst hn
  refine forO_ind (fun i σ => S (l.take i) σ) h0 (fun i σ N hi h hN => ?_) fun σ h => he σ (by rw [List.take_length] at h; exact h)
  have e : l = l.take i ++ l[i] :: l.drop (i + 1) := by
    rw [List.getElem_cons_drop, List.take_append_drop]
  have := hs (l.take i) l[i] (l.drop (i + 1)) e σ h N fun σ2 h2 => hN σ2 (by rw [List.take_succ, List.getElem?_eq_getElem hi]; exact h2)
  rw [List.length_take, Nat.min_eq_left (Nat.le_of_lt hi)] at this
  exact this
theorem forO_det {α : Type} {t : Tg} {body : QL.Env → Post → Prop} {D : Post} {n : Nat} {tp en : Bool} (l : List α) (hn : n = l.length) (f : List α → QL.Env) {σ : QL.Env} (h0 : σ = f [])
    (hs : ∀ p a r, l = p ++ a :: r → ∀ N : QL.Env → Prop, N (f (p ++ [a])) → itemW n tp en p.length (f p) fun b => bindBW t b (f p) fun σ1 => body σ1 (D.loop N))
    (he : endW n tp (f l) (D.nx (f l))) : forO t body n tp en n σ D :=
  forO_gen l hn (fun p σ => σ = f p) h0 (fun p a r e σ h N hN => by subst h; exact hs p a r e N (hN _ rfl)) (fun σ h => by subst h; exact he)
/-! #### comprehensions -/
theorem backs_wipe {σ0 : QL.Env} : ∀ {own : List Nat} {σ : QL.Env} {K : QL.Env → Prop}, (∀ i ∈ own, backSlot σ0 i = none) → wipeW own σ K → restoreW σ0 own σ K
  | [], _, _, _, h => h
  | i :: own, σ, K, hb, h => by
    have h1 := hb i List.mem_cons_self
    have e : (fun σ1 => forceW (backSlot σ0 i) fun s => setW s i σ1 fun σ2 => restoreW σ0 own σ2 K) = fun σ1 => setW none i σ1 fun σ2 => restoreW σ0 own σ2 K := by
      funext σ1
      rw [h1]
      rfl
    show mapW (clr i) σ (fun σ1 => forceW (backSlot σ0 i) fun s => setW s i σ1 fun σ2 => restoreW σ0 own σ2 K)
    rw [e]
    have e2 : (fun σ2 => wipeW own σ2 K) = fun σ2 => wipeW own σ2 K := rfl
    have key : ∀ {f : Option SV → Option SV} {σ : QL.Env} {A B : QL.Env → Prop}, (∀ σ, A σ → B σ) → mapW f σ A → mapW f σ B := fun {f} => by
      intro σ
      induction σ with
      | nil => intro A B m h; exact m _ h
      | cons s r ih =>
        intro A B m h
        have h : forceW (f s) fun s' => mapW f r fun r' => A (s' :: r') := h
        show forceW (f s) fun s' => mapW f r fun r' => B (s' :: r')
        revert h
        cases f s with
        | none => exact fun h => ih (fun σ z => m _ z) h
        | some x => cases x <;> exact fun h => ih (fun σ z => m _ z) h
    have keyS : ∀ {x : Option SV} {i : Nat} {σ : QL.Env} {A B : QL.Env → Prop}, (∀ σ, A σ → B σ) → setW x i σ A → setW x i σ B := fun {x i σ} => by
      induction σ generalizing i with
      | nil => intro A B m h; cases i <;> exact h
      | cons s r ih =>
        intro A B m h
        cases i with
        | zero => exact m _ h
        | succ i => exact ih (fun σ z => m _ z) h
    exact key (fun σ1 z => keyS (fun σ2 z2 => backs_wipe (fun j hj => hb j (List.mem_cons_of_mem _ hj)) z2) z) h
theorem backs_of {σ : QL.Env} {own : List Nat} (h : own.map (backSlot σ) = own.map fun _ => none) : ∀ i ∈ own, backSlot σ i = none := List.map_inj_left.mp h
/-- kept as it is, where lists keep own things -/
theorem orT {b : Bool} {A B : Prop} (h : A) : (match b || true with | true => A | false => B) := by
  have e : (b || true) = true := Bool.or_true _
  rw [e]
  exact h
theorem compD_gen {α : Type} {own : List Nat} {t : Tg} {f : QL.Env → FK → Prop} {K : FK} {L : List BV} (l : List α) (enc : List α → α → BV) (hL : L = encs enc [] l) (S : List α → List M → QL.Env → Prop) {σ : QL.Env} (h0 : S [] [] σ)
    (hs : ∀ p a r, l = p ++ a :: r → ∀ acc σ, S p acc σ → ∀ N : FK, (∀ ms σ2, S (p ++ [a]) (acc ++ ms) σ2 → N ms σ2) → wipeW own σ fun σ0 => bindBW t (enc p a) σ0 fun σ1 => f σ1 N) (he : ∀ acc σ, S l acc σ → K acc σ) : compD own t f L σ K := by
  subst hL
  have key : ∀ (r p : List α), l = p ++ r → ∀ acc σ, S p acc σ → compD own t f (encs enc p r) σ fun ms σ2 => K (acc ++ ms) σ2 := fun r => by
    induction r with
    | nil =>
      intro p e acc σ h
      rw [List.append_nil] at e
      subst e
      show K (acc ++ []) σ
      rw [List.append_nil]
      exact he acc σ h
    | cons a r ih =>
      intro p e acc σ h
      refine hs p a r e acc σ h _ fun ms σ2 h2 => ?_
      have := ih (p ++ [a]) (by rw [e]; simp) (acc ++ ms) σ2 h2
      simp only [List.append_assoc] at this
      exact this
  exact key l [] rfl [] σ h0
/-- σ, but for the block's names, which hold nothing in σ0 -/
abbrev Wp (own : List Nat) (σ0 σ : QL.Env) : Prop := ∀ K : QL.Env → Prop, K σ0 → wipeW own σ K
/-- a comprehension over what was handed out: what a turn adds is told by its thing -/
theorem comp_map {α : Type} {own : List Nat} {t : Tg} {f : QL.Env → FK → Prop} {K : FK} {L : List BV} (l : List α) (enc : List α → α → BV) (hL : L = encs enc [] l) (g : α → List M) {σ : QL.Env} (hb : own.map (backSlot σ) = own.map fun _ => none) (h0 : Wp own σ σ)
    (hs : ∀ p a r, l = p ++ a :: r → ∀ N : FK, (∀ σ2, Wp own σ σ2 → N (g a) σ2) → bindBW t (enc p a) σ fun σ1 => f σ1 N) (h : K (l.flatMap g) σ) : compW own t (.dat L) f σ K := by
  refine compD_gen l enc hL (fun p acc σ' => acc = p.flatMap g ∧ Wp own σ σ') ⟨rfl, h0⟩ ?_ ?_
  · rintro p a r e acc σ' ⟨rfl, w⟩ N hN
    exact w _ (hs p a r e N fun σ2 w2 => hN _ _ ⟨by simp, w2⟩)
  · rintro acc σ' ⟨rfl, w⟩
    exact backs_wipe (backs_of hb) (w _ h)
/-- .. whose slots may change -/
theorem comp_inv {α β : Type} {own : List Nat} {t : Tg} {f : QL.Env → FK → Prop} {K : FK} {L : List BV} (l : List α) (enc : List α → α → BV) (hL : L = encs enc [] l) (F : β → QL.Env) (P : List α → List M → β → Prop) (b0 : β) {σ : QL.Env} (e0 : σ = F b0) (hb : own.map (backSlot σ) = own.map fun _ => none) (h0 : Wp own (F b0) (F b0)) (p0 : P [] [] b0)
    (hs : ∀ p a r, l = p ++ a :: r → ∀ acc b, P p acc b → ∀ N : FK, (∀ ms b' σ2, P (p ++ [a]) (acc ++ ms) b' → Wp own (F b') σ2 → N ms σ2) → bindBW t (enc p a) (F b) fun σ1 => f σ1 N) (h : ∀ acc b, P l acc b → K acc (F b)) : compW own t (.dat L) f σ K := by
  refine compD_gen l enc hL (fun p acc σ' => ∃ b, P p acc b ∧ Wp own (F b) σ') ⟨b0, p0, by rw [e0]; exact h0⟩ ?_ ?_
  · rintro p a r e acc σ' ⟨b, q, w⟩ N hN
    exact w _ (hs p a r e acc b q N fun ms b' σ2 q2 w2 => hN _ _ ⟨b', q2, w2⟩)
  · rintro acc σ' ⟨b, q, w⟩
    exact backs_wipe (backs_of hb) (w _ (h acc b q))
/-! #### lists of data -/
theorem flatMap_one {α β : Type} (g : α → β) : ∀ l : List α, (l.flatMap fun a => [g a]) = l.map g
  | [] => rfl
  | a :: r => by rw [List.flatMap_cons, flatMap_one g r]; rfl
theorem mkL_one {α : Type} (g : α → D) (l : List α) : mkL (l.flatMap fun a => [.dat (g a)]) = .sl (l.map g) := by
  rw [flatMap_one, ← mkL_dat, List.map_map]
  rfl
theorem mkL_if {α : Type} (q : α → Bool) (g : α → D) (l : List α) : mkL (l.flatMap fun a => if q a then [.dat (g a)] else []) = .sl ((l.filter q).map g) := by
  have : (l.flatMap fun a => if q a then [M.dat (g a)] else []) = ((l.filter q).map g).map .dat := by
    induction l with
    | nil => rfl
    | cons a r ih =>
      rw [List.flatMap_cons, ih, List.filter_cons]
      cases q a <;> rfl
  rw [this, mkL_dat]
/-- a comprehension of data -/
theorem comp_sl {α : Type} {own : List Nat} {t : Tg} {f : QL.Env → FK → Prop} {F : FK} {L : List BV} (l : List α) (enc : List α → α → BV) (hL : L = encs enc [] l) (g : α → D) {σ : QL.Env} (hb : own.map (backSlot σ) = own.map fun _ => none) (h0 : Wp own σ σ)
    (hs : ∀ p a r, l = p ++ a :: r → ∀ N : FK, (∀ σ2, Wp own σ σ2 → N [.dat (g a)] σ2) → bindBW t (enc p a) σ fun σ1 => f σ1 N) (h : ∀ ms, mkL ms = .sl (l.map g) → F ms σ) : compW own t (.dat L) f σ F :=
  comp_map l enc hL (fun a => [.dat (g a)]) hb h0 hs (h _ (mkL_one g l))
/-- .. of those that are wanted -/
theorem comp_slif {α : Type} {own : List Nat} {t : Tg} {f : QL.Env → FK → Prop} {F : FK} {L : List BV} (l : List α) (enc : List α → α → BV) (hL : L = encs enc [] l) (q : α → Bool) (g : α → D) {σ : QL.Env} (hb : own.map (backSlot σ) = own.map fun _ => none) (h0 : Wp own σ σ)
    (hs : ∀ p a r, l = p ++ a :: r → ∀ N : FK, (q a = true → ∀ σ2, Wp own σ σ2 → N [.dat (g a)] σ2) → (q a = false → ∀ σ2, Wp own σ σ2 → N [] σ2) → bindBW t (enc p a) σ fun σ1 => f σ1 N) (h : ∀ ms, mkL ms = .sl ((l.filter q).map g) → F ms σ) : compW own t (.dat L) f σ F :=
  comp_map l enc hL (fun a => if q a then [.dat (g a)] else []) hb h0 (fun p a r e N hN => hs p a r e N (fun z σ2 w => by have := hN σ2 w; rw [z] at this; exact this) (fun z σ2 w => by have := hN σ2 w; rw [z] at this; exact this)) (h _ (mkL_if q g l))
theorem encs_mapmap {α β : Type} (f : α → β) (enc : β → BV) (l : List α) : (l.map f).map enc = encs (fun _ a => enc (f a)) [] l := by
  rw [List.map_map]
  exact encs_map _ _ _
theorem atI_zero {α : Type} (a : α) (l : List α) : atI (a :: l) 0 = some a := (show atI (a :: l) ((0 : Nat) : Int) = some a from atI_nat rfl)
theorem at_pre {α β : Type} {l p r : List α} {a : α} (g : α → β) (e : l = p ++ a :: r) : (l.map g)[p.length]? = some (g a) := by
  subst e
  simp
theorem mem_pre {α : Type} {l p r : List α} {a : α} (e : l = p ++ a :: r) : a ∈ l := by
  subst e
  simp
theorem len_pre {α : Type} {l p r : List α} {a : α} (e : l = p ++ a :: r) : p.length < l.length := by
  subst e
  simp
theorem mapW_of {f : Option SV → Option SV} : ∀ {σ σ' : QL.Env} {K : QL.Env → Prop}, σ.map f = σ' → K σ' → mapW f σ K
  | [], _, K, e, h => by subst e; exact h
  | s :: r, _, K, e, h => by
    subst e
    show forceW (f s) fun s' => mapW f r fun r' => K (s' :: r')
    have ih : mapW f r fun r' => K (f s :: r') := mapW_of (K := fun r' => K (f s :: r')) rfl h
    revert ih
    cases f s with
    | none => exact fun h => h
    | some x => cases x <;> exact fun h => h
theorem beqK (k : Nat) : Nat.beq k k = true := Nat.beq_refl k
theorem at_env {N : QL.Env → Prop} {σ σ' : QL.Env} (h : N σ) (e : σ' = σ) : N σ' := by rw [e]; exact h
theorem at_mid {α : Type} {A B : List α} {x : α} {k : Nat} (h : A.length = k) : (A ++ x :: B)[k]? = some x := by
  subst h
  simp
theorem set_mid {α : Type} {A B : List α} {x y : α} {k : Nat} (h : A.length = k) : (A ++ x :: B).set k y = A ++ y :: B := by
  subst h
  simp
theorem lt_mid {α : Type} {A B : List α} {x : α} {k : Nat} (h : A.length = k) : k < (A ++ x :: B).length := by
  subst h
  simp
theorem drop_pre {α : Type} {l p r : List α} {a : α} (e : l = p ++ a :: r) : l.drop p.length = a :: r := by
  subst e
  simp
theorem drop_pre1 {α : Type} {l p r : List α} {a : α} (e : l = p ++ a :: r) : l.drop (p ++ [a]).length = r := by
  subst e
  simp
end QL
end
section
set_option linter.all false
set_option maxRecDepth 100000
set_option maxHeartbeats 1000000
set_option autoImplicit false
namespace QL
namespace K02
open PySem PySem.Spec PyProof.Rows L2

abbrev Call := Nat → List M → CK → CX → Prop
def PlainS (call : Call) : Prop := ∀ (pl : List Str) (es : List (List Rl)) (K : CK) (X : CX), K (.v (.sl (pl.map .str))) [tabM pl es] → call 33 [tabM pl es] K X
def EdsS (call : Call) : Prop := ∀ (pl : List Str) (es : List (List Rl)) (K : CK) (X : CX), es.length ≤ 100 → K (.v (ownL (es.map edM))) [tabM pl es] → call 34 [tabM pl es] K X
def ColsS (call : Call) : Prop := ∀ (pl : List Str) (rs : List Rl) (es : List (List Rl)) (K : CK) (X : CX), K (.v (.sl ((rs.map Rl.col).map .str))) [tabM pl (rs :: es)] → call 35 [tabM pl (rs :: es)] K X
def LenS (call : Call) : Prop := ∀ (pl : List Str) (es : List (List Rl)) (K : CK) (X : CX), K (.v (.dat (.int (es.length : Nat)))) [tabM pl es] → call 38 [tabM pl es] K X
def DeedsS (call : Call) : Prop := ∀ (pl : List Str) (rs : List Rl) (es : List (List Rl)) (K : CK) (X : CX), pl.length ≤ 100 → rs.length ≤ 100 → K (.v (.sl (deedsD pl rs))) [tabM pl (rs :: es)] → call 40 [tabM pl (rs :: es)] K X
def GetS (call : Call) : Prop := ∀ (pl : List Str) (es : List (List Rl)) (ts : List Str) (many : Nat) (x : Str) (K : CK) (X : CX), WF pl es ts many →
  (selR x es ≠ [] → K (.v (ownL ((selR x es).map itM))) [tabM pl es, .dat (.str x)]) → (selR x es = [] → X 103 (.dat (.str x)) [tabM pl es, .dat (.str x)]) → call 36 [tabM pl es, .dat (.str x)] K X
theorem plain_S (n : Nat) : PlainS (callW Pg (n + 1)) := fun _ _ _ _ h => plain_ok h
theorem eds_S (n : Nat) : EdsS (callW Pg (n + 1)) := fun _ _ _ _ h1 h => editions_ok h1 h
theorem cols_S (n : Nat) : ColsS (callW Pg (n + 1)) := fun _ _ _ _ _ h => columns_ok h
theorem len_S (n : Nat) : LenS (callW Pg (n + 1)) := fun _ _ _ _ h => len_ok h
theorem deeds_S (n : Nat) : DeedsS (callW Pg (n + 1)) := fun _ _ _ _ _ h1 h2 h => deeds_ok h1 h2 h
theorem get_S (n : Nat) : GetS (callW Pg (n + 1)) := fun _ _ _ _ _ _ _ w hK hX => getitem_ok (by have := w.e2; omega) (by have := w.len; have := w.l2; omega) (fun rs h => (w.es rs h).1) hK hX
def colsOf (es : List (List Rl)) : List Str := match es with
  | [] => []
  | rs :: _ => rs.map Rl.col
theorem sel_ne {pl : List Str} {es : List (List Rl)} {ts : List Str} {many : Nat} (w : WF pl es ts many) {x : Str} (h : x ∈ colsOf es) : selR x es ≠ [] := by
  cases es with
  | nil => cases h
  | cons rs es =>
    obtain ⟨r, hr, rfl⟩ := List.mem_map.mp h
    intro e
    have : r ∈ selR r.col (rs :: es) := List.mem_flatMap.mpr ⟨rs, List.mem_cons_self, List.mem_filter.mpr ⟨hr, by simp⟩⟩
    rw [e] at this
    cases this
def itemsM (es : List (List Rl)) (cs : List Str) : List M := cs.map fun x => ownL ((selR x es).map itM)
abbrev toldM (pl : List Str) (es : List (List Rl)) (rs : List Rl) : M := .lst [.sl (pl.map .str), ownL (es.map edM), .sl ((colsOf es).map .str), .dat (.int (es.length : Nat)), .sl (deedsD pl rs), mkL (itemsM es (colsOf es))]
theorem asked_run {call : Call} (h1 : PlainS call) (h2 : EdsS call) (h3 : ColsS call) (h4 : LenS call) (h5 : DeedsS call) (h6 : GetS call) {pl : List Str} {rs : List Rl} {es : List (List Rl)} {ts : List Str} {many : Nat} {K : CK} {X : CX} (w : WF pl (rs :: es) ts many)
    (hK : K (.v (toldM pl (rs :: es) rs)) [tabM pl (rs :: es), .dat (.list ((colsOf (rs :: es)).map .str))]) : runW (gm call) ir__law_asked [tabM pl (rs :: es), .dat (.list ((colsOf (rs :: es)).map .str))] K X := by
  have hp : pl.length ≤ 14 := by have := w.len; have := w.l2; omega
  have hr : rs.length ≤ 14 := by have := w.len; have := w.l2; have := (w.es rs List.mem_cons_self).1; omega
  refine h1 _ _ _ _ ?_
  refine h2 _ _ _ _ (by have := w.e2; omega) ?_
  refine h3 _ _ _ _ _ ?_
  refine h4 _ _ _ _ ?_
  refine And.intro ⟨by omega, by have := w.e2; omega⟩ ?_
  refine h5 _ _ _ _ _ (by omega) (by omega) ?_
  refine comp_map (colsOf (rs :: es)) (fun _ x => oneD (.str x)) ?_ (fun x => [ownL ((selR x (rs :: es)).map itM)]) rfl (fun K h => h) ?_ ?_
  · show (((colsOf (rs :: es)).map PyData.str).map oneD) = _
    rw [List.map_map]
    exact encs_map _ _ _
  · intro p x r e N hN
    refine h6 _ _ _ _ _ _ _ w (fun _ => ?_) (fun h => absurd h (sel_ne w (mem_pre e)))
    refine orT ?_
    exact hN _ (fun K h => h)
  · rw [flatMap_one]
    refine orT ?_
    exact hK
end K02
end QL
end
section
set_option linter.all false
set_option maxRecDepth 100000
set_option maxHeartbeats 1000000
set_option autoImplicit false
namespace QL
namespace K02
open PySem PySem.Spec PyProof.Rows L2

abbrev xS : Str := Str.ofString "x"
def spR (r : Rl) : M := .tup [.dat (.str r.col), .dat (.str r.form), .sl (r.src.map .str ++ [.str xS]), .dat (.str r.held)]
def spE (rs : List Rl) : M := match rs with
  | [] => .sl [.str xS]
  | r :: rs => .lst ((r :: rs).map spR ++ [.dat (.str xS)])
abbrev T6 (P E C N DD I : M) : M := .lst [P, E, C, N, DD, I]
/-- the rules of an edition, each with a source more -/
theorem spoil_ed {Γ : Ctx} {D : Post} {P C N DD I : M} {A B : List M} {k : Nat} (hk : A.length = k) {rs : List Rl} (hl : ∀ r ∈ rs, r.src.length ≤ 100) (hl2 : rs.length ≤ 100)
    (h : D.nx [sv (T6 P (.lst (A ++ spE rs :: B)) C N DD I), none, none, some (.al 0 [1])]) :
    exSs Γ false (.cons (.for (.n 2) (.e (.x 1))
 (.cons (.wipe [2] (.ex (.bm (.ix (.x 2) (.c (.int 2))) .append (.cons false (.c (.str (Str.ofString "x"))) .nil))))
 .nil))
 (.cons (.wipe [1] (.ex (.bm (.x 1) .append (.cons false (.c (.str (Str.ofString "x"))) .nil))))
 .nil)) [sv (T6 P (.lst (A ++ edM rs :: B)) C N DD I), some (.al 0 [1, k]), none, some (.al 0 [1])] D := by
  have ha : ∀ {x : M}, (A ++ x :: B)[k]? = some x := at_mid hk
  have hlt : ∀ {x : M}, k < (A ++ x :: B).length := lt_mid hk
  cases rs with
  | nil =>
    (repeat (first | refine Exists.intro _ (And.intro (ha) ?_) | refine And.intro (ha) ?_ | refine Exists.intro _ (And.intro rfl ?_) | refine And.intro rfl ?_ | refine And.intro trivial ?_ | refine And.intro (Nat.le_of_ble_eq_true rfl) ?_ | refine And.intro (by decide) ?_))
    (repeat (first | refine Exists.intro _ (And.intro (ha) ?_) | refine And.intro (ha) ?_ | refine Exists.intro _ (And.intro (hlt) ?_) | refine And.intro (hlt) ?_ | refine Exists.intro _ (And.intro rfl ?_) | refine And.intro rfl ?_ | refine And.intro trivial ?_ | refine And.intro (Nat.le_of_ble_eq_true rfl) ?_ | refine And.intro (by decide) ?_))
    refine mapW_of (by simp only [List.map_cons, List.map_nil, clr, clrB, clrU, aheadEq, above, beqK, List.cons_append, List.nil_append, List.append_eq, Bool.not_true, Bool.not_false, Bool.false_or, Bool.or_true, Bool.true_or, Bool.and_true, Bool.and_false]; exact rfl) ?_
    refine at_env (N := D.nx) h ?_
    rw [set_mid hk]
    rfl
  | cons r0 ra =>
    rw [show edM (r0 :: ra) = .lst ((r0 :: ra).map rM) from rfl]
    generalize hms : (r0 :: ra).map rM = ms
    (repeat (first | refine Exists.intro _ (And.intro (ha) ?_) | refine And.intro (ha) ?_ | refine Exists.intro _ (And.intro rfl ?_) | refine And.intro rfl ?_ | refine And.intro trivial ?_ | refine And.intro (Nat.le_of_ble_eq_true rfl) ?_ | refine And.intro (by decide) ?_))
    refine forO_det (r0 :: ra) ?_ (fun q => [sv (T6 P (.lst (A ++ .lst (q.map spR ++ ((r0 :: ra).drop q.length).map rM) :: B)) C N DD I), some (.al 0 [1, k]), none, some (.al 0 [1]), some (.al 0 [1, k])]) ?_ ?_ ?_
    · rw [← hms, List.length_map]
    · rw [← hms]; rfl
    · intro q r z e N hN
      rw [drop_pre1 e] at hN
      rw [drop_pre e]
      have hb : ∀ {x : M}, (q.map spR ++ x :: z.map rM)[q.length]? = some x := at_mid (by rw [List.length_map])
      have hb2 : ∀ {x : M}, q.length < (q.map spR ++ x :: z.map rM).length := lt_mid (by rw [List.length_map])
      have hz : (r.src.map PyData.str).length < 16777216 := by
        have := hl r (mem_pre e)
        rw [List.length_map]; omega
      rw [List.map_cons]
      have hn : ms.length = (q.map spR ++ rM r :: z.map rM).length := by rw [← hms, List.length_map, e]; simp
      (repeat (first | refine Exists.intro _ (And.intro (ha) ?_) | refine And.intro (ha) ?_ | refine Exists.intro _ (And.intro (hn.symm) ?_) | refine And.intro (hn.symm) ?_ | refine Exists.intro _ (And.intro (hb) ?_) | refine And.intro (hb) ?_ | refine Exists.intro _ (And.intro (hlt) ?_) | refine And.intro (hlt) ?_ | refine Exists.intro _ (And.intro (hb2) ?_) | refine And.intro (hb2) ?_ | refine Exists.intro _ (And.intro (hz) ?_) | refine And.intro (hz) ?_ | refine Exists.intro _ (And.intro rfl ?_) | refine And.intro rfl ?_ | refine And.intro trivial ?_ | refine And.intro (Nat.le_of_ble_eq_true rfl) ?_ | refine And.intro (by decide) ?_))
      refine mapW_of (by simp only [List.map_cons, List.map_nil, clr, clrB, clrU, aheadEq, above, beqK, List.cons_append, List.nil_append, List.append_eq, Bool.not_true, Bool.not_false, Bool.false_or, Bool.or_true, Bool.true_or, Bool.and_true, Bool.and_false]; exact rfl) ?_
      refine at_env (N := N) hN ?_
      rw [set_mid hk, set_mid (by rw [List.length_map]), List.map_append, List.append_assoc]
      rfl
    · have ha' : ms.length = ((r0 :: ra).map spR).length := by rw [← hms, List.length_map, List.length_map]
      have hd : ((r0 :: ra).map spR).length < 16777216 := by rw [List.length_map]; omega
      have e0 : (r0 :: ra).map spR ++ ((r0 :: ra).drop (r0 :: ra).length).map rM = (r0 :: ra).map spR := by simp
      rw [e0]
      generalize hns : (r0 :: ra).map spR = ns at ha' hd e0
      (repeat (first | refine Exists.intro _ (And.intro (ha) ?_) | refine And.intro (ha) ?_ | refine Exists.intro _ (And.intro (ha'.symm) ?_) | refine And.intro (ha'.symm) ?_ | refine Exists.intro _ (And.intro (hlt) ?_) | refine And.intro (hlt) ?_ | refine Exists.intro _ (And.intro (hd) ?_) | refine And.intro (hd) ?_ | refine Exists.intro _ (And.intro rfl ?_) | refine And.intro rfl ?_ | refine And.intro trivial ?_ | refine And.intro (Nat.le_of_ble_eq_true rfl) ?_ | refine And.intro (by decide) ?_))
      refine mapW_of (by simp only [List.map_cons, List.map_nil, clr, clrB, clrU, aheadEq, above, beqK, List.cons_append, List.nil_append, List.append_eq, Bool.not_true, Bool.not_false, Bool.false_or, Bool.or_true, Bool.true_or, Bool.and_true, Bool.and_false]; exact rfl) ?_
      refine at_env (N := D.nx) h ?_
      rw [set_mid hk]
      show _ = [sv (T6 P (.lst (A ++ .lst ((r0 :: ra).map spR ++ [.dat (.str xS)]) :: B)) C N DD I), none, none, some (.al 0 [1])]
      rw [hns]
      rfl
def spI (r : Rl) : M := .tup [.dat (.str r.form), .sl (insAt (r.src.map .str) 0 (.str xS)), .dat (.str r.held)]
/-- the items of a column, each with a source more, the last one gone -/
theorem spoil_it {Γ : Ctx} {D : Post} {P E C N DD : M} {A B : List M} {k : Nat} (hk : A.length = k) {rs : List Rl} (ne : rs ≠ []) (hl : ∀ r ∈ rs, r.src.length ≤ 100) (hl2 : rs.length ≤ 1000)
    (h : D.nx [sv (T6 P E C N DD (.lst (A ++ .lst (rs.map spI).dropLast :: B))), none, none, some (.al 0 [5])]) :
    exSs Γ false (.cons (.for (.n 2) (.e (.x 1))
 (.cons (.wipe [2] (.ex (.bm (.ix (.x 2) (.c (.int 1))) .insert (.cons false (.c (.int 0)) (.cons false (.c (.str (Str.ofString "x"))) .nil)))))
 .nil))
 (.cons (.wipe [1] (.ex (.bm (.x 1) .pop .nil)))
 .nil)) [sv (T6 P E C N DD (.lst (A ++ ownL (rs.map itM) :: B))), some (.al 0 [5, k]), none, some (.al 0 [5])] D := by
  have ha : ∀ {x : M}, (A ++ x :: B)[k]? = some x := at_mid hk
  have hlt : ∀ {x : M}, k < (A ++ x :: B).length := lt_mid hk
  cases rs with
  | nil => exact absurd rfl ne
  | cons r0 ra =>
    rw [show ownL ((r0 :: ra).map itM) = .lst ((r0 :: ra).map itM) from rfl]
    generalize hms : (r0 :: ra).map itM = ms
    (repeat (first | refine Exists.intro _ (And.intro (ha) ?_) | refine And.intro (ha) ?_ | refine Exists.intro _ (And.intro rfl ?_) | refine And.intro rfl ?_ | refine And.intro trivial ?_ | refine And.intro (Nat.le_of_ble_eq_true rfl) ?_ | refine And.intro (by decide) ?_))
    refine forO_det (r0 :: ra) ?_ (fun q => [sv (T6 P E C N DD (.lst (A ++ .lst (q.map spI ++ ((r0 :: ra).drop q.length).map itM) :: B))), some (.al 0 [5, k]), none, some (.al 0 [5]), some (.al 0 [5, k])]) ?_ ?_ ?_
    · rw [← hms, List.length_map]
    · rw [← hms]; rfl
    · intro q r z e N' hN
      rw [drop_pre1 e] at hN
      rw [drop_pre e]
      have hb : ∀ {x : M}, (q.map spI ++ x :: z.map itM)[q.length]? = some x := at_mid (by rw [List.length_map])
      have hb2 : ∀ {x : M}, q.length < (q.map spI ++ x :: z.map itM).length := lt_mid (by rw [List.length_map])
      have hz : (0 : Int) ≤ 0 ∧ (0 : Int) < 2 ^ 63 ∧ (r.src.map PyData.str).length < 16777216 := by
        have := hl r (mem_pre e)
        rw [List.length_map]
        exact ⟨by decide, by decide, by omega⟩
      rw [List.map_cons]
      have hn : ms.length = (q.map spI ++ itM r :: z.map itM).length := by rw [← hms, List.length_map, e]; simp
      (repeat (first | refine Exists.intro _ (And.intro (ha) ?_) | refine And.intro (ha) ?_ | refine Exists.intro _ (And.intro (hn.symm) ?_) | refine And.intro (hn.symm) ?_ | refine Exists.intro _ (And.intro (hb) ?_) | refine And.intro (hb) ?_ | refine Exists.intro _ (And.intro (hlt) ?_) | refine And.intro (hlt) ?_ | refine Exists.intro _ (And.intro (hb2) ?_) | refine And.intro (hb2) ?_ | refine Exists.intro _ (And.intro (hz) ?_) | refine And.intro (hz) ?_ | refine Exists.intro _ (And.intro rfl ?_) | refine And.intro rfl ?_ | refine And.intro trivial ?_ | refine And.intro (Nat.le_of_ble_eq_true rfl) ?_ | refine And.intro (by decide) ?_))
      refine mapW_of (by simp only [List.map_cons, List.map_nil, clr, clrB, clrU, aheadEq, above, beqK, List.cons_append, List.nil_append, List.append_eq, Bool.not_true, Bool.not_false, Bool.false_or, Bool.or_true, Bool.true_or, Bool.and_true, Bool.and_false]; exact rfl) ?_
      refine at_env (N := N') hN ?_
      rw [set_mid hk, set_mid (by rw [List.length_map]), List.map_append, List.append_assoc]
      rfl
    · have ha' : ms.length = ((r0 :: ra).map spI).length := by rw [← hms, List.length_map, List.length_map]
      have e0 : (r0 :: ra).map spI ++ ((r0 :: ra).drop (r0 :: ra).length).map itM = (r0 :: ra).map spI := by simp
      rw [e0]
      have hp : ∃ x, ((r0 :: ra).map spI)[((r0 :: ra).map spI).length - 1]? = some x := ⟨_, List.getElem?_eq_getElem (by simp)⟩
      obtain ⟨x, hx⟩ := hp
      generalize hns : (r0 :: ra).map spI = ns at ha' e0 hx
      rw [hns] at h
      (repeat (first | refine Exists.intro _ (And.intro (ha) ?_) | refine And.intro (ha) ?_ | refine Exists.intro _ (And.intro (ha'.symm) ?_) | refine And.intro (ha'.symm) ?_ | refine Exists.intro _ (And.intro (hlt) ?_) | refine And.intro (hlt) ?_ | refine Exists.intro _ (And.intro (hx) ?_) | refine And.intro (hx) ?_ | refine Exists.intro _ (And.intro rfl ?_) | refine And.intro rfl ?_ | refine And.intro trivial ?_ | refine And.intro (Nat.le_of_ble_eq_true rfl) ?_ | refine And.intro (by decide) ?_))
      refine mapW_of (by simp only [List.map_cons, List.map_nil, clr, clrB, clrU, aheadEq, above, beqK, List.cons_append, List.nil_append, List.append_eq, Bool.not_true, Bool.not_false, Bool.false_or, Bool.or_true, Bool.true_or, Bool.and_true, Bool.and_false]; exact rfl) ?_
      refine at_env (N := D.nx) h ?_
      rw [set_mid hk]
      rfl
theorem flat_two {α : Type} (l r : List α) : l ++ r = l ++ r := rfl
theorem spoilt_run {call : Call} {pl : List Str} {rs : List Rl} {es : List (List Rl)} {ts : List Str} {many : Nat} {K : CK} {X : CX} (w : WF pl (rs :: es) ts many) (hK : ∀ m, K (.v (.dat .none)) [m]) : runW (gm call) ir__law_items_spoilt [toldM pl (rs :: es) rs] K X := by
  have hp : pl.length ≤ 14 := by have := w.len; have := w.l2; omega
  have hsr : ∀ q ∈ rs :: es, q.length ≤ 100 ∧ ∀ r ∈ q, r.src.length ≤ 100 := fun q hq => by
    obtain ⟨h1, h2⟩ := w.es q hq
    refine ⟨by have := w.len; have := w.l2; omega, fun r hr => ?_⟩
    obtain ⟨i, hi, e⟩ := List.mem_iff_getElem.mp hr
    have := (h2.at_ i r (by rw [List.getElem?_eq_getElem hi, e])).ln
    omega
  show runW (gm call) ir__law_items_spoilt [T6 (.sl (pl.map .str)) (.lst ((rs :: es).map edM)) (.sl ((colsOf (rs :: es)).map .str)) (.dat (.int ((rs :: es).length : Nat))) (.sl (deedsD pl rs)) (mkL (itemsM (rs :: es) (colsOf (rs :: es))))] K X
  generalize hms : (rs :: es).map edM = ms
  (repeat (first | refine Exists.intro _ (And.intro rfl ?_) | refine And.intro rfl ?_ | refine And.intro trivial ?_ | refine And.intro (Nat.le_of_ble_eq_true rfl) ?_ | refine And.intro (by decide) ?_))
  refine forO_det (rs :: es) ?_ (fun q => [sv (T6 (.sl (pl.map .str)) (.lst (q.map spE ++ ((rs :: es).drop q.length).map edM)) (.sl ((colsOf (rs :: es)).map .str)) (.dat (.int ((rs :: es).length : Nat))) (.sl (deedsD pl rs)) (mkL (itemsM (rs :: es) (colsOf (rs :: es))))), none, none, some (.al 0 [1])]) ?_ ?_ ?_
  · rw [← hms, List.length_map]
  · rw [← hms]; rfl
  · intro q r z e N hN
    rw [drop_pre1 e] at hN
    rw [drop_pre e]
    have hb : ∀ {x : M}, (q.map spE ++ x :: z.map edM)[q.length]? = some x := at_mid (by rw [List.length_map])
    rw [List.map_cons]
    have hn : ms.length = (q.map spE ++ edM r :: z.map edM).length := by rw [← hms, List.length_map, e]; simp
    have hN' : N [sv (T6 (.sl (pl.map .str)) (.lst (q.map spE ++ spE r :: z.map edM)) (.sl ((colsOf (rs :: es)).map .str)) (.dat (.int ((rs :: es).length : Nat))) (.sl (deedsD pl rs)) (mkL (itemsM (rs :: es) (colsOf (rs :: es))))), none, none, some (.al 0 [1])] := by
      rw [List.map_append, List.append_assoc] at hN
      exact hN
    obtain ⟨hr2, hr1⟩ := hsr r (mem_pre e)
    (repeat (first | refine Exists.intro _ (And.intro (hn.symm) ?_) | refine And.intro (hn.symm) ?_ | refine Exists.intro _ (And.intro (hb) ?_) | refine And.intro (hb) ?_ | refine Exists.intro _ (And.intro rfl ?_) | refine And.intro rfl ?_ | refine And.intro trivial ?_ | refine And.intro (Nat.le_of_ble_eq_true rfl) ?_ | refine And.intro (by decide) ?_))
    rcases r with _ | ⟨r1, rr⟩ <;>
    · refine spoil_ed (A := q.map spE) (B := z.map edM) (by rw [List.length_map]) hr1 hr2 ?_
      exact hN'
  · have e0 : (rs :: es).map spE ++ ((rs :: es).drop (rs :: es).length).map edM = (rs :: es).map spE := by simp
    rw [e0]
    have hn : ms.length = ((rs :: es).map spE).length := by rw [← hms, List.length_map, List.length_map]
    obtain ⟨x1, hx1⟩ : ∃ x, ((rs :: es).map spE)[((rs :: es).map spE).length - 1]? = some x := ⟨_, List.getElem?_eq_getElem (by simp)⟩
    generalize hns : (rs :: es).map spE = ns at hn hx1 ⊢
    have hdl : (deedsD pl rs).length < 16777216 := by
      unfold deedsD
      simp
      have := (hsr rs List.mem_cons_self).1
      omega
    have hpl : (pl.map PyData.str).length < 16777216 := by rw [List.length_map]; omega
    have hcl : (0 : Int) ≤ 0 ∧ (0 : Int) < 2 ^ 63 ∧ ((colsOf (rs :: es)).map PyData.str).length < 16777216 := by
      refine ⟨by decide, by decide, ?_⟩
      rw [List.length_map]
      show (rs.map Rl.col).length < _
      rw [List.length_map]
      have := (hsr rs List.mem_cons_self).1
      omega
    cases hc : rs with
    | nil =>
      have hI : mkL (itemsM (rs :: es) (colsOf (rs :: es))) = .sl [] := by rw [hc]; rfl
      rw [← hc, hI]
      (repeat (first | refine Exists.intro _ (And.intro (hn.symm) ?_) | refine And.intro (hn.symm) ?_ | refine Exists.intro _ (And.intro (hpl) ?_) | refine And.intro (hpl) ?_ | refine Exists.intro _ (And.intro (hx1) ?_) | refine And.intro (hx1) ?_ | refine Exists.intro _ (And.intro (hcl) ?_) | refine And.intro (hcl) ?_ | refine Exists.intro _ (And.intro rfl ?_) | refine And.intro rfl ?_ | refine And.intro trivial ?_ | refine And.intro (Nat.le_of_ble_eq_true rfl) ?_ | refine And.intro (by decide) ?_))
      exact hK _
    | cons r0 ra =>
      rw [← hc]
      have ne : ∀ x ∈ colsOf (rs :: es), selR x (rs :: es) ≠ [] := fun x hx => sel_ne w hx
      have hsel : ∀ x, (selR x (rs :: es)).length ≤ 1000 ∧ ∀ r ∈ selR x (rs :: es), r.src.length ≤ 100 := fun x => by
        refine ⟨?_, fun r hr => ?_⟩
        · have key : ∀ l : List (List Rl), (∀ q ∈ l, q.length ≤ 14) → (selR x l).length ≤ 14 * l.length := fun l => by
            induction l with
            | nil => intro _; simp [selR]
            | cons a l ih =>
              intro h
              have h1 := ih fun q hq => h q (List.mem_cons_of_mem _ hq)
              have h2 := h a List.mem_cons_self
              have h3 := List.length_filter_le (fun r : Rl => decide (r.col = x)) a
              have e : selR x (a :: l) = a.filter (fun r => decide (r.col = x)) ++ selR x l := rfl
              rw [e, List.length_append, List.length_cons]
              omega
          have := key (rs :: es) fun q hq => by have := (w.es q hq).1; have := w.len; have := w.l2; omega
          have := w.e2
          omega
        · obtain ⟨q, hq, hr⟩ := List.mem_flatMap.mp hr
          exact (hsr q hq).2 r ((List.mem_filter.mp hr).1)
      have hI : mkL (itemsM (rs :: es) (colsOf (rs :: es))) = .lst (itemsM (rs :: es) (colsOf (rs :: es))) := by
        have : colsOf (rs :: es) = r0.col :: ra.map Rl.col := by rw [hc]; rfl
        unfold itemsM
        rw [this, List.map_cons]
        have n0 : selR r0.col (rs :: es) ≠ [] := ne _ (by rw [this]; exact List.mem_cons_self)
        cases e0 : selR r0.col (rs :: es) with
        | nil => exact absurd e0 n0
        | cons a b => rfl
      rw [hI]
      have : colsOf (rs :: es) ≠ [] := by rw [hc]; exact fun h => by cases h
      have hI2 : itemsM (rs :: es) (colsOf (rs :: es)) = (colsOf (rs :: es)).map fun x => ownL ((selR x (rs :: es)).map itM) := rfl
      generalize hit : itemsM (rs :: es) (colsOf (rs :: es)) = is at hI2
      (repeat (first | refine Exists.intro _ (And.intro (hn.symm) ?_) | refine And.intro (hn.symm) ?_ | refine Exists.intro _ (And.intro rfl ?_) | refine And.intro rfl ?_ | refine And.intro trivial ?_ | refine And.intro (Nat.le_of_ble_eq_true rfl) ?_ | refine And.intro (by decide) ?_))
      refine forO_det (colsOf (rs :: es)) ?_ (fun q => [sv (T6 (.sl (pl.map .str)) (.lst ns) (.sl ((colsOf (rs :: es)).map .str)) (.dat (.int ((rs :: es).length : Nat))) (.sl (deedsD pl rs)) (.lst (q.map (fun x => M.lst ((selR x (rs :: es)).map spI).dropLast) ++ ((colsOf (rs :: es)).drop q.length).map fun x => ownL ((selR x (rs :: es)).map itM)))), none, none, some (.al 0 [5])]) ?_ ?_ ?_
      · rw [hI2, List.length_map]
      · rw [hI2]; rfl
      · intro q x z e N hN
        rw [drop_pre1 e] at hN
        rw [drop_pre e]
        have hb : ∀ {y : M}, (q.map (fun x => M.lst ((selR x (rs :: es)).map spI).dropLast) ++ y :: z.map fun x => ownL ((selR x (rs :: es)).map itM))[q.length]? = some y := at_mid (by rw [List.length_map])
        rw [List.map_cons]
        have hn : is.length = (q.map (fun x => M.lst ((selR x (rs :: es)).map spI).dropLast) ++ ownL ((selR x (rs :: es)).map itM) :: z.map fun x => ownL ((selR x (rs :: es)).map itM)).length := by rw [hI2, List.length_map, e]; simp
        have hN' : N [sv (T6 (.sl (pl.map .str)) (.lst ns) (.sl ((colsOf (rs :: es)).map .str)) (.dat (.int ((rs :: es).length : Nat))) (.sl (deedsD pl rs)) (.lst (q.map (fun x => M.lst ((selR x (rs :: es)).map spI).dropLast) ++ .lst ((selR x (rs :: es)).map spI).dropLast :: z.map fun x => ownL ((selR x (rs :: es)).map itM)))), none, none, some (.al 0 [5])] := by
          rw [List.map_append, List.append_assoc] at hN
          exact hN
        (repeat (first | refine Exists.intro _ (And.intro (hn.symm) ?_) | refine And.intro (hn.symm) ?_ | refine Exists.intro _ (And.intro (hb) ?_) | refine And.intro (hb) ?_ | refine Exists.intro _ (And.intro rfl ?_) | refine And.intro rfl ?_ | refine And.intro trivial ?_ | refine And.intro (Nat.le_of_ble_eq_true rfl) ?_ | refine And.intro (by decide) ?_))
        have hx := ne x (mem_pre e)
        obtain ⟨hs1, hs2⟩ := hsel x
        generalize selR x (rs :: es) = sx at hx hs1 hs2 hN' ⊢
        rcases sx with _ | ⟨s1, ss⟩
        · exact absurd rfl hx
        · refine spoil_it (A := q.map (fun x => M.lst ((selR x (rs :: es)).map spI).dropLast)) (B := z.map fun x => ownL ((selR x (rs :: es)).map itM)) (by rw [List.length_map]) hx hs2 hs1 ?_
          exact hN'
      · have hn2 : is.length = ((colsOf (rs :: es)).map (fun x => M.lst ((selR x (rs :: es)).map spI).dropLast) ++ ((colsOf (rs :: es)).drop (colsOf (rs :: es)).length).map fun x => ownL ((selR x (rs :: es)).map itM)).length := by rw [hI2]; simp
        (repeat (first | refine Exists.intro _ (And.intro (hn2.symm) ?_) | refine And.intro (hn2.symm) ?_ | refine Exists.intro _ (And.intro (hpl) ?_) | refine And.intro (hpl) ?_ | refine Exists.intro _ (And.intro (hx1) ?_) | refine And.intro (hx1) ?_ | refine Exists.intro _ (And.intro (hcl) ?_) | refine And.intro (hcl) ?_ | refine Exists.intro _ (And.intro rfl ?_) | refine And.intro rfl ?_ | refine And.intro trivial ?_ | refine And.intro (Nat.le_of_ble_eq_true rfl) ?_ | refine And.intro (by decide) ?_))
        exact hK _
end K02
end QL
end
section
set_option linter.all false
set_option maxRecDepth 100000
set_option maxHeartbeats 1000000
/-! PB1: how deep and how long data are: shown, compared. -/
namespace QL
open PySem PySem.Spec PyProof.Rows L2

theorem listText_le (ts : List Str) : (listText ts).length ≤ piled ts + 2 := by
  unfold listText
  rw [strLen_append]
  cases ts with
  | nil => decide
  | cons t r =>
    show (textFrom 1 (("[" : Str) ++ ((if 0 > 0 then ", " else "" : String) : Str) ++ t) r).length + 1 ≤ _
    rw [textFrom_length_pos r 1 _ (by decide), strLen_append, strLen_append, piled_cons]
    have h1 : ("[" : Str).length = 1 := rfl
    have h2 : (((if 0 > 0 then ", " else "" : String) : Str)).length = 0 := rfl
    omega
theorem tupleText_le (ts : List Str) : (tupleText ts).length ≤ piled ts + 3 := by
  unfold tupleText
  rw [strLen_append, strLen_append]
  have h1 : ("(" : Str).length = 1 := rfl
  have h2 : (((if ts.length == 1 then ",)" else ")" : String) : Str)).length ≤ 2 := by split <;> decide
  cases ts with
  | nil =>
    have h3 : (Str.join ", " []).length = 0 := rfl
    omega
  | cons t r =>
    have := join_length_add (t :: r) (by simp)
    omega
mutual
/-- at most so many signs, shown -/
def cost : D → Nat
  | .none => 4
  | .bool _ => 5
  | .int i => i.natAbs.log2 + 3
  | .str x => 10 * x.length + 2
  | .list ds => costAll ds + 2
  | .tuple ds => costAll ds + 3
  | .dict _ => 0
def costAll : List D → Nat
  | [] => 0
  | d :: r => cost d + 2 + costAll r
end
mutual
theorem shown_le : ∀ {d : D}, d.canLay0 = true → dep d < 1000 → d.shown.length ≤ cost d
  | .none, _, _ => by decide
  | .bool b, _, _ => by cases b <;> decide
  | .int i, _, _ => by
    show (Str.ofString (toString i)).length ≤ _
    have := int_text_length_le (a := i) (k := i.natAbs.log2 + 1) (by omega) (by omega)
    rw [PySem.ofString_length]
    show _ ≤ i.natAbs.log2 + 3
    omega
  | .str x, h, _ => by
    have hx : PyData.strOk x = true := by simpa [PyData.canLay0] using h
    refine StrLaws.reprText_len x fun c hc => ?_
    unfold PyData.strOk at hx
    rw [Array.all_eq_true_iff_forall_mem] at hx
    have := of_decide_eq_true (hx c (by simpa using hc))
    omega
  | .list ds, h, g => by
    show (listText (PyData.shownAll ds)).length ≤ costAll ds + 2
    have := listText_le (PyData.shownAll ds)
    have := shownAll_le (ds := ds) (by simpa [PyData.canLay0] using h) (by simp only [dep] at g; omega)
    omega
  | .tuple ds, h, g => by
    show (tupleText (PyData.shownAll ds)).length ≤ costAll ds + 3
    have := tupleText_le (PyData.shownAll ds)
    have := shownAll_le (ds := ds) (by simpa [PyData.canLay0] using h) (by simp only [dep] at g; omega)
    omega
  | .dict _, _, g => by simp [dep] at g
theorem shownAll_le : ∀ {ds : List D}, PyData.canLayAll0 ds = true → depAll ds < 1000 → piled (PyData.shownAll ds) ≤ costAll ds
  | [], _, _ => by simp [PyData.shownAll, piled, costAll]
  | d :: r, h, g => by
    simp only [PyData.canLayAll0, Bool.and_eq_true] at h
    simp only [depAll] at g
    have h1 := shown_le h.1 (by omega)
    have h2 := shownAll_le h.2 (by omega)
    simp only [PyData.shownAll, piled_cons, costAll]
    omega
end
/-- at most k deep and c long, shown -/
structure Bd (k c : Nat) (d : D) : Prop where
  dp : dep d ≤ k
  cs : cost d ≤ c
  ly : d.canLay0 = true
  sh : d.showable = true
theorem Bd.mono {k c k' c' : Nat} {d : D} (h : Bd k c d) (hk : k ≤ k') (hc : c ≤ c') : Bd k' c' d := ⟨Nat.le_trans h.dp hk, Nat.le_trans h.cs hc, h.ly, h.sh⟩
theorem Bd.none : Bd 0 4 .none := ⟨by decide, by decide, rfl, rfl⟩
theorem Bd.bool (b : Bool) : Bd 0 5 (.bool b) := ⟨Nat.le_refl _, Nat.le_refl _, rfl, rfl⟩
theorem Bd.int {i : Int} {k : Nat} (h : i.natAbs < 2 ^ k) (h0 : 0 < k) (hk : k ≤ 1900) : Bd 0 (k + 2) (.int i) := by
  have := lg h h0
  exact ⟨Nat.le_refl _, by show i.natAbs.log2 + 3 ≤ _; omega, rfl, decide_eq_true (by omega)⟩
theorem Bd.nat {i : Nat} (h : i < 1024) : Bd 0 12 (.int (i : Nat)) := Bd.int (k := 10) (by omega) (by decide) (by decide)
theorem Bd.str {x : Str} {n : Nat} (h : PyData.strOk x = true) (hn : x.length ≤ n) : Bd 0 (10 * n + 2) (.str x) := ⟨Nat.le_refl _, by show 10 * x.length + 2 ≤ _; omega, by simpa [PyData.canLay0] using h, rfl⟩
theorem bd_all {k c : Nat} : ∀ {ds : List D}, (∀ d ∈ ds, Bd k c d) → depAll ds ≤ k ∧ costAll ds ≤ ds.length * (c + 2) ∧ PyData.canLayAll0 ds = true ∧ PyData.showableAll ds = true
  | [], _ => ⟨Nat.zero_le _, Nat.zero_le _, rfl, rfl⟩
  | d :: r, h => by
    obtain ⟨h1, h2, h3, h4⟩ := h d List.mem_cons_self
    obtain ⟨i1, i2, i3, i4⟩ := bd_all (ds := r) fun x hx => h x (List.mem_cons_of_mem _ hx)
    refine ⟨Nat.max_le.mpr ⟨h1, i1⟩, ?_, by simp only [PyData.canLayAll0, h3, i3]; rfl, by simp only [PyData.showableAll, h4, i4]; rfl⟩
    simp only [costAll, List.length_cons, Nat.succ_mul]
    omega
theorem Bd.list {k c n : Nat} {ds : List D} (h : ∀ d ∈ ds, Bd k c d) (hn : ds.length ≤ n) : Bd (k + 1) (n * (c + 2) + 2) (.list ds) := by
  obtain ⟨h1, h2, h3, h4⟩ := bd_all h
  have := Nat.mul_le_mul_right (c + 2) hn
  exact ⟨by show depAll ds + 1 ≤ _; omega, by show costAll ds + 2 ≤ _; omega, by simpa [PyData.canLay0] using h3, by simpa [PyData.showable] using h4⟩
theorem Bd.tuple {k c n : Nat} {ds : List D} (h : ∀ d ∈ ds, Bd k c d) (hn : ds.length ≤ n) : Bd (k + 1) (n * (c + 2) + 3) (.tuple ds) := by
  obtain ⟨h1, h2, h3, h4⟩ := bd_all h
  have := Nat.mul_le_mul_right (c + 2) hn
  exact ⟨by show depAll ds + 1 ≤ _; omega, by show costAll ds + 3 ≤ _; omega, by simpa [PyData.canLay0] using h3, by simpa [PyData.showable] using h4⟩
theorem Bd.okD {k c : Nat} {d : D} (h : Bd k c d) (hk : k ≤ 64) : okD d = true := Nat.ble_eq_true_of_le (Nat.le_trans h.dp hk)
theorem Bd.show {k c : Nat} {d : D} (h : Bd k c d) (hk : k ≤ 64) (hc : c ≤ 16777216) (hd : isDisp d = true) : okShow d :=
  ⟨hd, h.sh, h.okD hk, Nat.le_trans (shown_le h.ly (by have := h.dp; omega)) (Nat.le_trans h.cs hc)⟩
theorem Bd.strs {l : List Str} {n : Nat} (h : ∀ x ∈ l, PyData.strOk x = true ∧ x.length ≤ n) : ∀ d ∈ l.map PyData.str, Bd 0 (10 * n + 2) d := fun d hd => by
  obtain ⟨x, hx, rfl⟩ := List.mem_map.mp hd
  exact .str (h x hx).1 (h x hx).2
theorem Bd.map {α : Type} {f : α → D} {l : List α} {k c : Nat} (h : ∀ a ∈ l, Bd k c (f a)) : ∀ d ∈ l.map f, Bd k c d := fun d hd => by
  obtain ⟨x, hx, rfl⟩ := List.mem_map.mp hd
  exact h x hx
end QL
end
section
set_option linter.all false
set_option maxRecDepth 100000
set_option maxHeartbeats 1000000
set_option autoImplicit false
namespace QL
namespace K02
open PySem PySem.Spec PyProof.Rows L2

theorem refused_run {call : Call} (h6 : GetS call) {pl : List Str} {es : List (List Rl)} {ts : List Str} {many : Nat} {x : Str} {K : CK} {X : CX} (w : WF pl es ts many) (h : selR x es = [])
    (hK : K (.v (.dat (.str x))) [tabM pl es, .dat (.str x)]) : runW (gm call) ir__law_refused [tabM pl es, .dat (.str x)] K X := by
  refine h6 _ _ _ _ _ _ _ w (fun z => absurd h z) (fun _ => ?_)
  exact hK
def planM (pl : List Str) (es : List (List Rl)) : M := .dat (planD pl es)
def itsD (es : List (List Rl)) (cs : List Str) : List PyData := cs.map fun x => .list ((selR x es).map itD)
/-- what is due -/
def dueD (pl : List Str) (rs : List Rl) (es : List (List Rl)) : PyData := .list [.list (pl.map .str), .list (es.map edD), .list ((colsOf es).map .str), .int (es.length : Nat), .list (deedsD pl rs), .list (itsD es (colsOf es))]
def AskS (call : Call) : Prop := ∀ (pl : List Str) (rs : List Rl) (es : List (List Rl)) (ts : List Str) (many : Nat) (K : CK) (X : CX), WF pl (rs :: es) ts many →
  K (.v (toldM pl (rs :: es) rs)) [tabM pl (rs :: es), .dat (.list ((colsOf (rs :: es)).map .str))] → call 57 [tabM pl (rs :: es), .dat (.list ((colsOf (rs :: es)).map .str))] K X
def SpoS (call : Call) : Prop := ∀ (pl : List Str) (rs : List Rl) (es : List (List Rl)) (ts : List Str) (many : Nat) (K : CK) (X : CX), WF pl (rs :: es) ts many → (∀ m, K (.v (.dat .none)) [m]) → call 58 [toldM pl (rs :: es) rs] K X
def RefS (call : Call) : Prop := ∀ (pl : List Str) (es : List (List Rl)) (ts : List Str) (many : Nat) (x : Str) (K : CK) (X : CX), WF pl es ts many → selR x es = [] → K (.v (.dat (.str x))) [tabM pl es, .dat (.str x)] → call 59 [tabM pl es, .dat (.str x)] K X
def EvS (call : Call) : Prop := ∀ (pl : List Str) (rs : List Rl) (es : List (List Rl)) (K : CK) (X : CX), pl.length ≤ 100 → rs.length ≤ 100 → K (.v (.sl (deedsD pl rs))) [.dat (planD pl (rs :: es))] → call 56 [.dat (planD pl (rs :: es))] K X
theorem ask_S (n : Nat) : AskS (callW Pg (n + 2)) := fun _ _ _ _ _ _ _ w h => call_of (fn := ir__law_asked) rfl (asked_run (plain_S n) (eds_S n) (cols_S n) (len_S n) (deeds_S n) (get_S n) w h)
theorem spo_S (n : Nat) : SpoS (callW Pg (n + 1)) := fun _ _ _ _ _ _ _ w h => call_of (fn := ir__law_items_spoilt) rfl (spoilt_run w h)
theorem ref_S (n : Nat) : RefS (callW Pg (n + 2)) := fun _ _ _ _ _ _ _ w h h2 => call_of (fn := ir__law_refused) rfl (refused_run (get_S n) w h h2)
theorem ev_S (n : Nat) : EvS (callW Pg (n + 1)) := fun _ _ _ _ _ h1 h2 h => every_ok h1 h2 h
/-! #### what is due is what is told -/
theorem filt_one {x : Str} : ∀ {rs : List Rl} {i : Nat}, (rs.map Rl.col).Nodup → (rs.map Rl.col)[i]? = some x → rs.filter (fun r => decide (r.col = x)) = rs[i]?.toList
  | [], i, _, h => by simp at h
  | r :: t, 0, nd, h => by
    simp at h
    have nd := List.nodup_cons.mp (by simpa using nd : (r.col :: t.map Rl.col).Nodup)
    have e : t.filter (fun q => decide (q.col = x)) = [] := List.filter_eq_nil_iff.mpr fun q hq => by
      have : q.col ≠ x := fun z => nd.1 (by rw [h, ← z]; exact List.mem_map_of_mem hq)
      simpa using this
    rw [List.filter_cons, if_pos (by simpa using h), e]
    rfl
  | r :: t, i + 1, nd, h => by
    have nd := List.nodup_cons.mp (by simpa using nd : (r.col :: t.map Rl.col).Nodup)
    have h : (t.map Rl.col)[i]? = some x := by simpa using h
    have ne : r.col ≠ x := fun z => nd.1 (by rw [z]; exact List.mem_of_getElem? h)
    rw [List.filter_cons, if_neg (by simpa using ne), filt_one nd.2 h]
    simp
def itAt (i : Nat) (rs : List Rl) : PyData := match rs[i]? with
  | some r => itD r
  | none => .none
theorem sel_at {x : Str} {cs : List Str} {i : Nat} (nd : cs.Nodup) (h : cs[i]? = some x) : ∀ {es : List (List Rl)}, (∀ rs ∈ es, rs.map Rl.col = cs) → (selR x es).map itD = es.map (itAt i)
  | [], _ => rfl
  | rs :: es, he => by
    have e := he rs List.mem_cons_self
    have ih := sel_at nd h (es := es) fun q hq => he q (List.mem_cons_of_mem _ hq)
    have h1 : (rs.map Rl.col)[i]? = some x := by rw [e]; exact h
    have e2 : selR x (rs :: es) = rs.filter (fun r => decide (r.col = x)) ++ selR x es := rfl
    rw [e2, filt_one (by rw [e]; exact nd) h1, List.map_append, ih, List.map_cons]
    cases z : rs[i]? with
    | none => rw [List.getElem?_map, z] at h1; cases h1
    | some r => unfold itAt; rw [z]; rfl
theorem cols_all {pl : List Str} {rs : List Rl} {es : List (List Rl)} {ts : List Str} {many : Nat} (w : WF pl (rs :: es) ts many) : ∀ q ∈ rs :: es, q.map Rl.col = colsOf (rs :: es) := fun q hq => by
  obtain ⟨l1, v1⟩ := w.es q hq
  obtain ⟨l2, v2⟩ := w.es rs List.mem_cons_self
  exact cols_eq v1 v2 (by omega)
theorem cols_nd {pl : List Str} {rs : List Rl} {es : List (List Rl)} {ts : List Str} {many : Nat} (w : WF pl (rs :: es) ts many) : (colsOf (rs :: es)).Nodup ∧ ∀ x ∈ colsOf (rs :: es), x ∈ ts ∧ Nm x := by
  obtain ⟨l2, v2⟩ := w.es rs List.mem_cons_self
  have e : ∀ i, i < rs.length → (rs.map Rl.col)[i]? = ts[pl.length + i]? := fun i hi => by
    rw [List.getElem?_map, List.getElem?_eq_getElem hi, (v2.at_ i rs[i] (List.getElem?_eq_getElem hi)).col]
    rfl
  have e2 : rs.map Rl.col = ts.drop pl.length := by
    refine List.ext_getElem? fun i => ?_
    rw [List.getElem?_drop]
    by_cases hi : i < rs.length
    · exact e i hi
    · rw [List.getElem?_eq_none (by rw [List.length_map]; omega), List.getElem?_eq_none (by have := w.len; omega)]
  show (rs.map Rl.col).Nodup ∧ ∀ x ∈ rs.map Rl.col, _
  rw [e2]
  exact ⟨w.nd.sublist (List.drop_sublist _ _), fun x hx => ⟨List.mem_of_mem_drop hx, w.nm x (List.mem_of_mem_drop hx)⟩⟩
theorem find_at {cs : List Str} (nd : cs.Nodup) {p r : List Str} {x : Str} (e : cs = p ++ x :: r) : findD (.str x) (cs.map .str) = some p.length := by
  subst e
  have nd2 : x ∉ p := fun h => by
    have := List.nodup_append.mp nd
    exact this.2.2 x h x List.mem_cons_self rfl
  clear nd
  induction p with
  | nil => simp [findD, PyData.eqv]
  | cons a p ih =>
    have h1 : a ≠ x := fun z => nd2 (by rw [z]; exact List.mem_cons_self)
    have h2 := ih fun h => nd2 (List.mem_cons_of_mem _ h)
    have e1 : PyData.eqv (.str a) (.str x) = false := by
      show (a == x) = false
      simpa using h1
    simp only [List.cons_append, List.map_cons, findD, e1]
    rw [h2]
    rfl
theorem pys_eds : ∀ es : List (List Rl), M.pys (es.map edM) = some (es.map edD)
  | [] => rfl
  | rs :: es => by
    have h : ∀ rs : List Rl, M.pys (rs.map rM) = some (rs.map Rl.d) := fun rs => by
      induction rs with
      | nil => rfl
      | cons r rs ih => rw [List.map_cons]; unfold M.pys; rw [ih]; rfl
    rw [List.map_cons]
    unfold M.pys
    rw [pys_eds es]
    cases rs with
    | nil => rfl
    | cons r rs =>
      have := h (r :: rs)
      show (match M.pyO (.lst ((r :: rs).map rM)), some (es.map edD) with
        | some d, some ds => some (d :: ds)
        | _, _ => none) = _
      unfold M.pyO
      rw [this]
      rfl
theorem pyO_own {ms : List M} {ds : List PyData} (h : M.pys ms = some ds) : M.pyO (ownL ms) = some (.list ds) := by
  cases ms with
  | nil => cases h; rfl
  | cons m ms =>
    show M.pyO (.lst (m :: ms)) = _
    unfold M.pyO
    rw [h]
    rfl
theorem pys_items (es : List (List Rl)) : ∀ cs : List Str, M.pys (itemsM es cs) = some (itsD es cs)
  | [] => rfl
  | x :: cs => by
    show M.pys (ownL ((selR x es).map itM) :: itemsM es cs) = _
    unfold M.pys
    rw [pys_items es cs, pyO_own (pys_it (selR x es))]
    rfl
theorem pyO_mkL : ∀ {ms : List M} {ds : List PyData}, M.pys ms = some ds → M.pyO (mkL ms) = some (.list ds) := fun {ms ds} h => by
  unfold mkL
  cases e : dats ms with
  | some es =>
    show some (PyData.list es) = _
    have key : ∀ {ms : List M} {es ds : List PyData}, dats ms = some es → M.pys ms = some ds → es = ds := fun {ms} => by
      induction ms with
      | nil => intro es ds h1 h2; cases h1; cases h2; rfl
      | cons m ms ih =>
        intro es ds h1 h2
        cases m with
        | dat d =>
          unfold dats at h1
          unfold M.pys at h2
          cases e1 : dats ms with
          | none => rw [e1] at h1; cases h1
          | some l1 =>
            rw [e1] at h1
            cases e2 : M.pys ms with
            | none => rw [e2] at h2; cases h2
            | some l2 =>
              rw [e2] at h2
              cases h1
              cases h2
              rw [ih e1 e2]
        | _ => cases h1
    rw [key e h]
  | none =>
    show M.pyO (.lst ms) = _
    unfold M.pyO
    rw [h]
    rfl
theorem pys_told (pl : List Str) (es : List (List Rl)) (rs : List Rl) : M.pys [.sl (pl.map .str), ownL (es.map edM), .sl ((colsOf es).map .str), .dat (.int (es.length : Nat)), .sl (deedsD pl rs), mkL (itemsM es (colsOf es))] =
    some [.list (pl.map .str), .list (es.map edD), .list ((colsOf es).map .str), .int (es.length : Nat), .list (deedsD pl rs), .list (itsD es (colsOf es))] := by
  have h1 := pyO_own (pys_eds es)
  have h2 := pyO_mkL (pys_items es (colsOf es))
  generalize ownL (es.map edM) = m1 at h1
  generalize mkL (itemsM es (colsOf es)) = m2 at h2
  simp only [M.pys, M.pyO, h1, h2]
end K02
end QL
end
section
set_option linter.all false
set_option maxRecDepth 100000
set_option maxHeartbeats 1000000
set_option autoImplicit false
namespace QL
namespace K02
open PySem PySem.Spec PyProof.Rows L2

/-! #### how long data are -/
theorem nm_ok {x : Str} (h : Nm x) : PyData.strOk x = true ∧ x.length ≤ 8 := by
  obtain ⟨h1, h2, h3⟩ := h
  refine ⟨?_, h2⟩
  unfold PyData.strOk
  rw [Array.all_eq_true_iff_forall_mem]
  intro c hc
  have := h3 c (by simpa using hc)
  exact decide_eq_true (by omega)
theorem bd_nm {x : Str} (h : Nm x) : Bd 0 82 (.str x) := .str (nm_ok h).1 (nm_ok h).2
theorem bd_held {x : Str} (h : x ∈ ways) : Bd 0 82 (.str x) := by
  have : ∀ x ∈ ways, PyData.strOk x = true ∧ x.length ≤ 8 := by decide +kernel
  exact .str (this x h).1 (this x h).2
theorem bd_src {ts : List Str} {k : Nat} {r : Rl} (nm : ∀ t ∈ ts, Nm t) (v : VR ts k r) : Bd 1 700 (.list (r.src.map .str)) :=
  (Bd.list (n := 8) (Bd.map fun x hx => bd_nm (nm x (List.mem_of_mem_take (v.src x hx)))) (by rw [List.length_map]; exact v.ln)).mono (by decide) (by decide)
theorem bd_all4 {k c : Nat} {a b d e : PyData} (h1 : Bd k c a) (h2 : Bd k c b) (h3 : Bd k c d) (h4 : Bd k c e) : ∀ x ∈ [a, b, d, e], Bd k c x := fun x hx => by
  simp only [List.mem_cons, List.not_mem_nil, or_false] at hx
  rcases hx with rfl | rfl | rfl | rfl <;> assumption
theorem bd_rl {ts : List Str} {k : Nat} {r : Rl} (nm : ∀ t ∈ ts, Nm t) (v : VR ts k r) : Bd 2 3000 r.d :=
  (Bd.tuple (k := 1) (c := 700) (n := 4) (bd_all4 ((bd_nm (nm r.col (List.mem_of_getElem? v.col))).mono (by decide) (by decide)) ((bd_nm v.form).mono (by decide) (by decide)) (bd_src nm v) ((bd_held v.held).mono (by decide) (by decide))) (by simp)).mono (by decide) (by decide)
theorem bd_it {ts : List Str} {k : Nat} {r : Rl} (nm : ∀ t ∈ ts, Nm t) (v : VR ts k r) : Bd 2 3000 (itD r) :=
  (Bd.tuple (k := 1) (c := 700) (n := 4) (fun x hx => bd_all4 ((bd_nm v.form).mono (by decide) (by decide)) ((bd_nm v.form).mono (by decide) (by decide)) (bd_src nm v) ((bd_held v.held).mono (by decide) (by decide)) x (List.mem_cons_of_mem _ hx)) (by simp)).mono (by decide) (by decide)
theorem VRs.mem {ts : List Str} {cnt : Nat} {rs : List Rl} (v : VRs ts cnt rs) {r : Rl} (h : r ∈ rs) : ∃ k, VR ts k r := by
  obtain ⟨i, hi, e⟩ := List.mem_iff_getElem.mp h
  exact ⟨_, v.at_ i r (by rw [List.getElem?_eq_getElem hi, e])⟩
theorem bd_ed {ts : List Str} {cnt : Nat} {rs : List Rl} (nm : ∀ t ∈ ts, Nm t) (v : VRs ts cnt rs) (hl : rs.length ≤ 14) : Bd 3 50000 (edD rs) :=
  (Bd.list (n := 14) (Bd.map fun r hr => by obtain ⟨k, q⟩ := v.mem hr; exact bd_rl nm q) (by rw [List.length_map]; exact hl)).mono (by decide) (by decide)
section
variable {pl ts : List Str} {rs : List Rl} {es : List (List Rl)} {many : Nat}
theorem WF.mm (w : WF pl es ts many) : many ≤ 14 ∧ pl.length ≤ 14 := by
  have := w.len
  have := w.l2
  omega
theorem bd_eds (w : WF pl es ts many) : Bd 4 500000 (.list (es.map edD)) :=
  (Bd.list (n := 8) (Bd.map fun rs hr => bd_ed w.nm (w.es rs hr).2 (by rw [(w.es rs hr).1]; exact w.mm.1)) (by rw [List.length_map]; exact w.e2)).mono (by decide) (by decide)
theorem WF.nmp (w : WF pl es ts many) : ∀ t ∈ pl, Nm t := fun t ht => w.nm t (by rw [w.tk] at ht; exact List.mem_of_mem_take ht)
theorem bd_pl (w : WF pl es ts many) : Bd 1 2000 (.list (pl.map .str)) :=
  (Bd.list (n := 14) (Bd.map fun t ht => bd_nm (w.nmp t ht)) (by rw [List.length_map]; exact w.mm.2)).mono (by decide) (by decide)
theorem bd_plan (w : WF pl es ts many) : Bd 5 2000000 (planD pl es) :=
  (Bd.tuple (n := 2) (k := 4) (c := 500000) (fun x hx => by
    simp only [List.mem_cons, List.not_mem_nil, or_false] at hx
    rcases hx with rfl | rfl
    · exact (bd_pl w).mono (by decide) (by decide)
    · exact bd_eds w) (by simp)).mono (by decide) (by decide)
theorem bd_deeds (w : WF pl (rs :: es) ts many) : Bd 2 6000 (.list (deedsD pl rs)) := by
  have one : ∀ x : Str, Nm x → Bd 1 200 (.tuple [.str x]) := fun x h => (Bd.tuple (n := 1) (fun d hd => by rw [List.mem_singleton.mp hd]; exact bd_nm h) (by simp)).mono (by decide) (by decide)
  have two : ∀ x y : Str, Nm x → Nm y → Bd 1 200 (.tuple [.str x, .str y]) := fun x y h h2 => (Bd.tuple (n := 2) (k := 0) (c := 82) (fun d hd => by
    simp only [List.mem_cons, List.not_mem_nil, or_false] at hd
    rcases hd with rfl | rfl
    · exact bd_nm h
    · exact bd_nm h2) (by simp)).mono (by decide) (by decide)
  have hl : (deedsD pl rs).length ≤ 29 := by
    unfold deedsD
    have := w.mm
    have := (w.es rs List.mem_cons_self).1
    have := w.len
    have := w.l2
    simp
    omega
  refine (Bd.list (k := 1) (c := 200) (n := 29) (fun d hd => ?_) hl).mono (by decide) (by decide)
  unfold deedsD at hd
  simp only [List.mem_append, List.mem_singleton, List.mem_map] at hd
  rcases hd with ((rfl | ⟨t, ht, rfl⟩) | ⟨r, hr, rfl⟩) | rfl
  · exact one _ (by decide +kernel)
  · exact two _ _ (by decide +kernel) (w.nmp t ht)
  · obtain ⟨k, q⟩ := (w.es rs List.mem_cons_self).2.mem hr
    exact two _ _ (by decide +kernel) (w.nm _ (List.mem_of_getElem? q.col))
  · exact one _ (by decide +kernel)
theorem sel_mem {x : Str} {r : Rl} {es : List (List Rl)} (h : r ∈ selR x es) : ∃ rs ∈ es, r ∈ rs := by
  obtain ⟨q, hq, hr⟩ := List.mem_flatMap.mp h
  exact ⟨q, hq, (List.mem_filter.mp hr).1⟩
theorem sel_len (w : WF pl (rs :: es) ts many) {x : Str} (hx : x ∈ colsOf (rs :: es)) : (selR x (rs :: es)).length = (rs :: es).length := by
  obtain ⟨i, hi, e⟩ := List.mem_iff_getElem.mp hx
  have := congrArg List.length (sel_at (cols_nd w).1 (by rw [List.getElem?_eq_getElem hi, e]) (cols_all w))
  simpa using this
theorem bd_items (w : WF pl (rs :: es) ts many) : Bd 4 500000 (.list (itsD (rs :: es) (colsOf (rs :: es)))) := by
  have hl : (colsOf (rs :: es)).length ≤ 14 := by
    show (rs.map Rl.col).length ≤ _
    rw [List.length_map, (w.es rs List.mem_cons_self).1]
    exact w.mm.1
  refine (Bd.list (k := 3) (c := 25000) (n := 14) (Bd.map fun x hx => ?_) (by rw [List.length_map]; exact hl)).mono (by decide) (by decide)
  refine (Bd.list (k := 2) (c := 3000) (n := 8) (Bd.map fun r hr => ?_) (by rw [List.length_map, sel_len w hx]; exact w.e2)).mono (by decide) (by decide)
  obtain ⟨q, hq, hr⟩ := sel_mem hr
  obtain ⟨k, v⟩ := (w.es q hq).2.mem hr
  exact bd_it w.nm v
theorem bd_cols (w : WF pl (rs :: es) ts many) : Bd 1 2000 (.list ((colsOf (rs :: es)).map .str)) :=
  (Bd.list (n := 14) (Bd.map fun t ht => bd_nm ((cols_nd w).2 t ht).2) (by
    rw [List.length_map]
    show (rs.map Rl.col).length ≤ _
    rw [List.length_map, (w.es rs List.mem_cons_self).1]
    exact w.mm.1)).mono (by decide) (by decide)
theorem bd_due (w : WF pl (rs :: es) ts many) : Bd 5 4000000 (dueD pl rs (rs :: es)) :=
  (Bd.list (n := 6) (k := 4) (c := 500000) (fun x hx => by
    simp only [List.mem_cons, List.not_mem_nil, or_false] at hx
    rcases hx with rfl | rfl | rfl | rfl | rfl | rfl
    · exact (bd_pl w).mono (by decide) (by decide)
    · exact bd_eds w
    · exact (bd_cols w).mono (by decide) (by decide)
    · exact (Bd.nat (by have := w.e2; omega)).mono (by decide) (by decide)
    · exact (bd_deeds w).mono (by decide) (by decide)
    · exact bd_items w) (by simp)).mono (by decide) (by decide)
theorem sel_no (w : WF pl (rs :: es) ts many) {x : Str} (hx : x ∉ colsOf (rs :: es)) : selR x (rs :: es) = [] := by
  refine List.eq_nil_iff_forall_not_mem.mpr fun r hr => ?_
  obtain ⟨q, hq, h2⟩ := List.mem_flatMap.mp hr
  obtain ⟨h3, h4⟩ := List.mem_filter.mp h2
  refine hx ?_
  rw [← cols_all w q hq, ← of_decide_eq_true h4]
  exact List.mem_map_of_mem h3
end
end K02
end QL
end
section
set_option linter.all false
set_option maxRecDepth 100000
set_option maxHeartbeats 1000000
set_option autoImplicit false
namespace QL
namespace K02
open PySem PySem.Spec PyProof.Rows L2

theorem str_eqv (x : Str) : (!(PyData.eqv (.str x) (.str x))) = false := by
  show (!(x == x)) = false
  simp
theorem rl_at {rs : List Rl} {i : Nat} {r : Rl} (h : rs[i]? = some r) : atI (rs.map Rl.d) (i : Int) = some r.d := atI_nat (by rw [List.getElem?_map, h]; rfl)
theorem right_run {call : Call} (ha : AskS call) (hs : SpoS call) (hr : RefS call) (he : EvS call) {pl : List Str} {rs : List Rl} {es : List (List Rl)} {ts : List Str} {many : Nat} {K : CK} {X : CX} (w : WF pl (rs :: es) ts many) {st : List Str} (hst : ∀ x ∈ st, PyData.strOk x = true ∧ x.length ≤ 100)
    (hK : K (.v (.dat (.bool true))) [.dat (planD pl (rs :: es)), tabM pl (rs :: es), .sl (st.map .str)]) : runW (gm call) ir__law_table_right [.dat (planD pl (rs :: es)), tabM pl (rs :: es), .sl (st.map .str)] K X := by
  have hm := w.mm
  have hrl := (w.es rs List.mem_cons_self).1
  have at0 : atI [PyData.list (pl.map .str), .list ((rs :: es).map edD)] 0 = some (.list (pl.map .str)) := rfl
  have at1 : atI [PyData.list (pl.map .str), .list ((rs :: es).map edD)] 1 = some (.list ((rs :: es).map edD)) := rfl
  have at2 : atI ((rs :: es).map edD) 0 = some (edD rs) := atI_zero _ _
  have ec : rs.map (fun r => PyData.str r.col) = (colsOf (rs :: es)).map PyData.str := by
    show _ = (rs.map Rl.col).map PyData.str
    rw [List.map_map]
    rfl
  have nd := (cols_nd w).1
  have ca := cols_all w
  have hcl : (colsOf (rs :: es)).length = rs.length := by show (rs.map Rl.col).length = _; rw [List.length_map]
  have ed0 := bd_due w
  have htold := pys_told pl (rs :: es) rs
  have bcol := (bd_cols w).okD (by decide)
  have hsn := fun x (h : x ∉ colsOf (rs :: es)) => sel_no w h
  have ha := fun K X => ha pl rs es ts many K X w
  have hs := fun K X => hs pl rs es ts many K X w
  have hr := fun x K X => hr pl (rs :: es) ts many x K X w
  have he := fun K X => he pl rs es K X (by omega) (by omega)
  have hel := w.e2
  clear w
  generalize hes : rs :: es = el at *
  (repeat (first | refine Exists.intro _ (And.intro (at1) ?_) | refine And.intro (at1) ?_ | refine Exists.intro _ (And.intro (at2) ?_) | refine And.intro (at2) ?_ | refine Exists.intro _ (And.intro rfl ?_) | refine And.intro rfl ?_ | refine And.intro trivial ?_ | refine And.intro (Nat.le_of_ble_eq_true rfl) ?_ | refine And.intro (by decide) ?_))
  refine comp_sl rs (fun _ r => oneD r.d) (encs_mapmap _ _ _) (fun r => .str r.col) rfl (fun K h => h) ?_ ?_
  · intro p r z e N hN
    (repeat (first | refine Exists.intro _ (And.intro rfl ?_) | refine And.intro rfl ?_ | refine And.intro trivial ?_ | refine And.intro (Nat.le_of_ble_eq_true rfl) ?_ | refine And.intro (by decide) ?_))
    exact hN _ (fun K h => h)
  rw [ec]
  intro ms em
  simp only [em]
  clear em ec
  have hitd : ∀ cs, itsD el cs = cs.map fun x => PyData.list ((selR x el).map itD) := fun _ => rfl
  refine forO_det (colsOf el) ?_ (fun q => [sv (.dat (planD pl el)), sv (tabM pl el), sv (.sl (st.map .str)), sv (.sl ((colsOf el).map .str)), sv (.sl (itsD el q)), none, none, none, none, none, none, none, none, some (.al 3 [])]) ?_ ?_ ?_
  · rw [List.length_map]
  · rfl
  · intro q x z e N hN
    have hx := at_pre PyData.str e
    have hf := find_at nd e
    have oks := ok_strs (colsOf el)
    (repeat (first | refine Exists.intro _ (And.intro (List.length_map ..) ?_) | refine And.intro (List.length_map ..) ?_ | refine Exists.intro _ (And.intro (hx) ?_) | refine And.intro (hx) ?_ | refine Exists.intro _ (And.intro (oks) ?_) | refine And.intro (oks) ?_ | refine Exists.intro _ (And.intro (hf) ?_) | refine And.intro (hf) ?_ | refine Exists.intro _ (And.intro (at1) ?_) | refine And.intro (at1) ?_ | refine Exists.intro _ (And.intro rfl ?_) | refine And.intro rfl ?_ | refine And.intro trivial ?_ | refine And.intro (Nat.le_of_ble_eq_true rfl) ?_ | refine And.intro (by decide) ?_))
    have hq : (colsOf el)[q.length]? = some x := by rw [e]; simp
    refine comp_sl el (fun _ rs => oneD (edD rs)) (encs_mapmap _ _ _) (itAt q.length) rfl (fun K h => h) ?_ ?_
    · intro p a z' e' N' hN'
      have h1 : (a.map Rl.col)[q.length]? = some x := by rw [ca a (mem_pre e')]; exact hq
      obtain ⟨r, h2⟩ : ∃ r, a[q.length]? = some r := by
        cases h3 : a[q.length]? with
        | none => rw [List.getElem?_map, h3] at h1; cases h1
        | some r => exact ⟨r, rfl⟩
      have h3 := rl_at h2
      have h4 : itAt q.length a = itD r := by unfold itAt; rw [h2]
      rw [h4] at hN'
      (repeat (first | refine Exists.intro _ (And.intro (h3) ?_) | refine And.intro (h3) ?_ | refine Exists.intro _ (And.intro rfl ?_) | refine And.intro rfl ?_ | refine And.intro trivial ?_ | refine And.intro (Nat.le_of_ble_eq_true rfl) ?_ | refine And.intro (by decide) ?_))
      exact hN' _ (fun K h => h)
    · have hl4 : (itsD el q).length < 16777216 := by
        rw [hitd, List.length_map]
        have := len_pre e
        omega
      rw [← sel_at nd hq ca]
      intro ms em
      simp only [em]
      (repeat (first | refine Exists.intro _ (And.intro (hl4) ?_) | refine And.intro (hl4) ?_ | refine Exists.intro _ (And.intro rfl ?_) | refine And.intro rfl ?_ | refine And.intro trivial ?_ | refine And.intro (Nat.le_of_ble_eq_true rfl) ?_ | refine And.intro (by decide) ?_))
      refine at_env (N := N) hN ?_
      have e1 : itsD el (q ++ [x]) = itsD el q ++ [.list ((selR x el).map itD)] := by
        rw [hitd, List.map_append]
        rfl
      rw [e1]
      rfl
  · (repeat (first | refine Exists.intro _ (And.intro (List.length_map ..) ?_) | refine And.intro (List.length_map ..) ?_ | refine Exists.intro _ (And.intro (at0) ?_) | refine And.intro (at0) ?_ | refine Exists.intro _ (And.intro (at1) ?_) | refine And.intro (at1) ?_ | refine Exists.intro _ (And.intro rfl ?_) | refine And.intro rfl ?_ | refine And.intro trivial ?_ | refine And.intro (Nat.le_of_ble_eq_true rfl) ?_ | refine And.intro (by decide) ?_))
    refine he _ _ ?_
    (repeat (first | refine Exists.intro _ (And.intro (at1) ?_) | refine And.intro (at1) ?_ | refine Exists.intro _ (And.intro rfl ?_) | refine And.intro rfl ?_ | refine And.intro trivial ?_ | refine And.intro (Nat.le_of_ble_eq_true rfl) ?_ | refine And.intro (by decide) ?_))
    refine And.intro (smallN (k := 3) (by omega)) ?_
    have hdue : dueD pl rs el = .list [.list (pl.map .str), .list (el.map edD), .list ((colsOf el).map .str), .int (el.length : Nat), .list (deedsD pl rs), .list (itsD el (colsOf el))] := rfl
    rw [hdue] at ed0
    have elen : (el.map edD).length = el.length := List.length_map ..
    refine forD_det (List.replicate 3 ()) (fun p _ => oneD (.int (0 + (p.length : Nat)))) rfl (fun q => [sv (.dat (planD pl el)), sv (tabM pl el), sv (.sl (st.map .str)), sv (.dat (.list ((colsOf el).map .str))), none, none, none, sv (.sl [.list (pl.map .str), .list (el.map edD), .list ((colsOf el).map .str), .int (el.length : Nat), .list (deedsD pl rs), .list (itsD el (colsOf el))]), none, none, none, none, none]) ?_ ?_ ?_
    · rw [elen]
      rfl
    · intro q _ z e N hN
      refine ha _ _ ?_
      (repeat (first | refine Exists.intro _ (And.intro (htold) ?_) | refine And.intro (htold) ?_ | refine Exists.intro _ (And.intro (ed0.show (by decide) (by decide) rfl) ?_) | refine And.intro (ed0.show (by decide) (by decide) rfl) ?_ | refine Exists.intro _ (And.intro rfl ?_) | refine And.intro rfl ?_ | refine And.intro trivial ?_ | refine And.intro (Nat.le_of_ble_eq_true rfl) ?_ | refine And.intro (by decide) ?_))
      refine cond_no (str_eqv _) ?_
      refine forO_det st ?_ (fun _ => [sv (.dat (planD pl el)), sv (tabM pl el), sv (.sl (st.map .str)), sv (.dat (.list ((colsOf el).map .str))), none, none, none, sv (.sl [.list (pl.map .str), .list (el.map edD), .list ((colsOf el).map .str), .int (el.length : Nat), .list (deedsD pl rs), .list (itsD el (colsOf el))]), none, sv (toldM pl el rs), none, none, none, some (.al 2 [])]) ?_ ?_ ?_
      · rw [List.length_map]
      · rfl
      · intro p x z' e' N' hN'
        have hx := at_pre PyData.str e'
        (repeat (first | refine Exists.intro _ (And.intro (List.length_map ..) ?_) | refine And.intro (List.length_map ..) ?_ | refine Exists.intro _ (And.intro (hx) ?_) | refine And.intro (hx) ?_ | refine Exists.intro _ (And.intro (bcol) ?_) | refine And.intro (bcol) ?_ | refine Exists.intro _ (And.intro rfl ?_) | refine And.intro rfl ?_ | refine And.intro trivial ?_ | refine And.intro (Nat.le_of_ble_eq_true rfl) ?_ | refine And.intro (by decide) ?_))
        have an : (!(((colsOf el).map PyData.str).any fun z => PyData.eqv z (.str x))) = !decide (x ∈ colsOf el) := by rw [any_str]
        have hw := hst x (mem_pre e')
        refine cond_split (fun h => ?_) (fun h => ?_)
        · have h2 : x ∉ colsOf el := by
            have h := an.symm.trans h
            simpa using h
          refine hr x _ _ (hsn x h2) ?_
          (repeat (first | refine Exists.intro _ (And.intro (((Bd.str hw.1 hw.2).show (by decide) (by decide) rfl)) ?_) | refine And.intro (((Bd.str hw.1 hw.2).show (by decide) (by decide) rfl)) ?_ | refine Exists.intro _ (And.intro rfl ?_) | refine And.intro rfl ?_ | refine And.intro trivial ?_ | refine And.intro (Nat.le_of_ble_eq_true rfl) ?_ | refine And.intro (by decide) ?_))
          refine cond_no (str_eqv _) ?_
          exact hN'
        · exact cond_no h hN'
      · (repeat (first | refine Exists.intro _ (And.intro (List.length_map ..) ?_) | refine And.intro (List.length_map ..) ?_ | refine Exists.intro _ (And.intro rfl ?_) | refine And.intro rfl ?_ | refine And.intro trivial ?_ | refine And.intro (Nat.le_of_ble_eq_true rfl) ?_ | refine And.intro (by decide) ?_))
        refine hs _ _ fun m => ?_
        exact hN
    · exact hK
end K02
end QL
end
section
set_option linter.all false
set_option maxRecDepth 100000
set_option maxHeartbeats 0
namespace QL
namespace K02
open PySem PySem.Spec PyProof.Rows L2
open He (ga ma ba)
def loose0 : List PySem.Str := ["__name__", "WorthError", "InvalidName", "DoubleName", "UnknownColumn", "InvalidEdition", "InvalidKind", "LETTERS", "WAYS_TO_HOLD", "is_name", "check_names", "check_sources", "check_edition", "Table", "_law_source", "_law_draw", "_law_some_titles", "_law_any_plan", "_law_copied", "_law_table_of", "_law_every_deed", "_law_asked", "_law_items_spoilt", "_law_refused", "_law_table_right"]
def loose : List PySem.Str := loose0
abbrev R : PySem.W.OpenRow := PySem.W.OpenLaw.row PySem.Challenge.rw_keptworths_k02_tables_told
abbrev ex (K : PySem.W.Frag) : Bool := (exs K).all id
abbrev hk : PySem.W.Hook := hookF 6 fn ex
def ob (s : PySem.W.SharedT) : AlF := obsFG 6 fn ex (HandSHeadRun.getT s)
theorem ob_eq (s : PySem.W.SharedT) : ob s = hk.obs s.abs := obsFG_eq (HandSHeadRun.getT_eq s)
theorem run (w : World) : HandSHeadRun.RunEq R (PySem.W.view R.prog [27]) hk ob 20000 loose w := by
  intro os
  kernel_rfl
/-- what the law's own call gives, wanted of every script -/
def Plain (N : Nat) : Prop := ∀ ns : List Int, ns.length ≤ 63 → (∀ i ∈ ns, Builtin.Int.intBits i ≤ 1048576) → callW Pg N 61 [.scr ns] (fun sv _ => sv = .v (.dat (.bool true))) fun _ _ _ => False
theorem facts {N : Nat} (hN : N = 12) (hp : Plain N) (w : World) (mg : Str → Option Value) (fa : Addr) (h : Heap) (Y : hk.says w h) (G : h.Ns mainGlobals mg) (hfa : mg "law" = some (.ref fa)) :
    ∃ (K : PySem.W.Frag) (fd : FuncData) (sp : Sp), K.In h ∧ noLists K = true ∧ (∀ (s : Shared) (u : Value), BindsTo s fd ⟨[u], []⟩ [("script", u)]) ∧
      (∀ (H : Hp) (a : Addr) (ns : List Int) (o : Obj), ns.length ≤ 63 → (∀ i ∈ ns, Builtin.Int.intBits i ≤ 1048576) → H a = some (.frz o (.lst (ns.map V.int))) → sp [.ref a] H (fun v _ => v = .bl true) fun _ _ _ => False) ∧
      ∀ base : Heap, K.In base → base.Ns mainGlobals mg → FnG R.prog w K mg base 24 fa fd ["script"] sp := by
  obtain ⟨K, KX, c⟩ := Y
  have T : Tp K mg := ⟨h, KX, G, c⟩
  have e := hfa.symm.trans (gloB_ok KX G (T.say 41 rfl))
  cases e
  have F := T.def_ 23 (d := dd (.g "law") "law" "law" (top 27)) rfl
  refine ⟨K, fdOf K (ga K "law"), spD (wd K) (callW Pg N 61), KX, T.say 2 rfl, fun s u => ?_, fun H a ns o hl hb hH => law_spD hH (hp ns hl hb), fun base _ _ => ?_⟩
  · exact FunD.bindsA (ps := ["script"]) F (fun _ _ _ _ _ _ us hl => match us, hl with | [_], _ => rfl) s [u] rfl
  · subst hN
    exact all_ok (P := R.prog) (w := w) (base := base) T 12 23 _ rfl
end K02
end QL
open PySem PySem.W PySem.Calls PyProof.Rows
theorem QL.K02.ends {N : Nat} (hN : N = 12) (hp : QL.K02.Plain N) : PySem.Challenge.rw_keptworths_k02_tables_told.Holds := by
  w_on; o_law
  refine HandSHeadRun.head_any (r := OpenLaw.row PySem.Challenge.rw_keptworths_k02_tables_told) (q := view (OpenLaw.row PySem.Challenge.rw_keptworths_k02_tables_told).prog [27]) (H := QL.K02.hk) (ob := QL.K02.ob) (M := 20000) (loose := QL.K02.loose) (d := HandSHeadRun.topDef (OpenLaw.row PySem.Challenge.rw_keptworths_k02_tables_told).prog 27) (kwd := []) QL.K02.ob_eq
    (by kernel_rfl) (fun s => by kernel_rfl) QL.K02.run (by kernel_rfl) (by kernel_rfl) (by kernel_rfl) (by rfl) (by first | assumption | decide +kernel) (by decide +kernel) ⟨rfl, rfl, rfl, rfl, rfl, by decide +kernel⟩ ?hw ?hc
  case hw => w_witness2
  case hc =>
    refine QL.walkF (l := PySem.Challenge.rw_keptworths_k02_tables_told) (n := 63) (k := 24) (x := "script") rfl (by decide) (by kernel_rfl) ⟨rfl, by decide, by decide⟩ ?F
    intro w mg fa h Y G hmg0
    have hmg : mg ("law" : PySem.Str) = some (.ref fa) := by
      have e : (HandSHeadRun.topDef (OpenLaw.row PySem.Challenge.rw_keptworths_k02_tables_told).prog 27).name = ("law" : PySem.Str) := by kernel_rfl
      rw [← e]
      exact hmg0
    exact QL.K02.facts hN hp w mg fa h Y G hmg
end
section
set_option linter.all false
set_option maxRecDepth 100000
set_option maxHeartbeats 1000000
set_option autoImplicit false
namespace QL
namespace K02
open PySem PySem.Spec PyProof.Rows L2

def InitS (call : Call) : Prop := ∀ (pl : List Str) (es : List (List Rl)) (ts : List Str) (many : Nat) (K : CK) (X : CX), WF pl es ts many → K (.v (.dat .none)) [tabM pl es, .sl (pl.map .str), .sl (es.map edD)] → call 32 [.ins false 110 [] [], .sl (pl.map .str), .sl (es.map edD)] K X
theorem init_S (n : Nat) : InitS (callW Pg (n + 3)) := fun _ _ _ _ _ _ w h => init_ok w h
def CopS (call : Call) : Prop := ∀ (es : List (List Rl)) (K : CK) (X : CX), es.length ≤ 100 → K (.v (.sl (es.map edD))) [.dat (.list (es.map edD))] → call 54 [.dat (.list (es.map edD))] K X
theorem cop_S (n : Nat) : CopS (callW Pg (n + 1)) := fun _ _ _ h1 h => copied_ok h1 h
def TabS (call : Call) : Prop := ∀ (pl : List Str) (es : List (List Rl)) (ts : List Str) (many : Nat) (K : CK) (X : CX), WF pl es ts many → K (.v (tabM pl es)) [.dat (planD pl es)] → call 55 [.dat (planD pl es)] K X
theorem tab_run {call : Call} (hi : InitS call) (hc : CopS call) {pl : List Str} {es : List (List Rl)} {ts : List Str} {many : Nat} {K : CK} {X : CX} (w : WF pl es ts many) (hK : K (.v (tabM pl es)) [.dat (planD pl es)]) : runW (gm call) ir__law_table_of [.dat (planD pl es)] K X := by
  have at0 : atI [PyData.list (pl.map .str), .list (es.map edD)] 0 = some (.list (pl.map .str)) := rfl
  have at1 : atI [PyData.list (pl.map .str), .list (es.map edD)] 1 = some (.list (es.map edD)) := rfl
  (repeat (first | refine Exists.intro _ (And.intro (at0) ?_) | refine And.intro (at0) ?_ | refine Exists.intro _ (And.intro (at1) ?_) | refine And.intro (at1) ?_ | refine Exists.intro _ (And.intro rfl ?_) | refine And.intro rfl ?_ | refine And.intro trivial ?_ | refine And.intro (Nat.le_of_ble_eq_true rfl) ?_ | refine And.intro (by decide) ?_))
  refine hc _ _ _ (by have := w.e2; omega) ?_
  refine hi _ _ _ _ _ _ w ?_
  exact hK
theorem tab_S (n : Nat) : TabS (callW Pg (n + 4)) := fun _ _ _ _ _ _ w h => call_of (fn := ir__law_table_of) rfl (tab_run (init_S n) (cop_S (n + 2)) w h)
def SrcFS (call : Call) : Prop := ∀ (ns : List Int) (p : Nat) (K : CK) (X : CX), ns.length ≤ 63 → (∀ i ∈ ns, Builtin.Int.intBits i ≤ 1048576) → p ≤ 100 → (∀ a b, (0 ≤ b ∧ b < 2 ^ 80) → K (.v (sack a b 0)) [.scr ns, iM p]) → call 41 [.scr ns, iM p] K X
theorem srcF_S (n : Nat) : SrcFS (callW Pg (n + 1)) := fun _ _ _ _ h1 h2 h3 h => source_ok h1 h2 h3 h
def PlanS (call : Call) : Prop := ∀ (a b c s0 s1 s2 s3 : Int) (K : CK) (X : CX), (0 ≤ b ∧ b < 2 ^ 80) → (0 ≤ c ∧ c < 2 ^ 35) → (1 ≤ s0 ∧ s0 ≤ 6) → (1 ≤ s1 ∧ s1 ≤ 8) → (1 ≤ s2 ∧ s2 ≤ 8) → (0 ≤ s3 ∧ s3 ≤ 6) →
  (∀ pl es ts many a' c', WF pl es ts many → 0 ≤ c' → c' ≤ c + 20000 → K (.v (.dat (planD pl es))) [sack a' b c', szs s0 s1 s2 s3]) → call 53 [sack a b c, szs s0 s1 s2 s3] K X
theorem plan_S (n : Nat) : PlanS (callW Pg (n + 3)) := fun _ _ _ _ _ _ _ _ _ h1 h2 h3 h4 h5 h6 h => plan_ok h1 h2 h3 h4 h5 h6 h
def RightS (call : Call) : Prop := ∀ (pl : List Str) (rs : List Rl) (es : List (List Rl)) (ts : List Str) (many : Nat) (st : List Str) (K : CK) (X : CX), WF pl (rs :: es) ts many → (∀ x ∈ st, PyData.strOk x = true ∧ x.length ≤ 100) →
  K (.v (.dat (.bool true))) [.dat (planD pl (rs :: es)), tabM pl (rs :: es), .sl (st.map .str)] → call 60 [.dat (planD pl (rs :: es)), tabM pl (rs :: es), .sl (st.map .str)] K X
theorem right_S (n : Nat) : RightS (callW Pg (n + 3)) := fun _ _ _ _ _ _ _ _ w h1 h => call_of (fn := ir__law_table_right) rfl (right_run (ask_S n) (spo_S (n + 1)) (ref_S n) (ev_S (n + 1)) w h1 h)
theorem sizes_at {r : Int} (h0 : 0 ≤ r) (h1 : r < 2) : ∃ s0 s1 s2 s3 : Int, atI [PyData.tuple [.int 6, .int 8, .int 8, .int 6], .tuple [.int 2, .int 3, .int 3, .int 2]] r = some (.tuple [.int s0, .int s1, .int s2, .int s3]) ∧ (1 ≤ s0 ∧ s0 ≤ 6) ∧ (1 ≤ s1 ∧ s1 ≤ 8) ∧ (1 ≤ s2 ∧ s2 ≤ 8) ∧ (0 ≤ s3 ∧ s3 ≤ 6) := by
  obtain ⟨k, rfl⟩ := Int.eq_ofNat_of_zero_le h0
  have : k < 2 := by omega
  match k, this with
  | 0, _ => exact ⟨6, 8, 8, 6, rfl, by omega, by omega, by omega, by omega⟩
  | 1, _ => exact ⟨2, 3, 3, 2, rfl, by omega, by omega, by omega, by omega⟩
/-- the strange texts -/
def strange (pl : List Str) (rs : List Rl) : List Str := [Str.ofString "", Str.ofString "put", Str.ofString "edition"] ++ pl ++ rs.map Rl.form ++ rs.map (fun r => cutStr r.col none (some (-1))) ++ rs.map (fun r => r.col ++ Str.ofString "z") ++ (rs.take 3).map (fun r => r.col ++ Str.ofString " ") ++ (rs.take 3).map (fun r => Txt.upper r.col)
theorem sOk_all {x : Str} (h : ∀ c ∈ x.cps.toList, c < 1000) : PyData.strOk x = true := by
  unfold PyData.strOk
  rw [Array.all_eq_true_iff_forall_mem]
  intro c hc
  have := h c (by simpa using hc)
  exact decide_eq_true (by omega)
theorem up_ok {x : Str} (h : Nm x) : PyData.strOk (Txt.upper x) = true ∧ (Txt.upper x).length ≤ 8 := by
  obtain ⟨h1, h2, h3⟩ := h
  have hA : ∀ c ∈ x.cps.toList, c < 128 := fun c hc => by have := h3 c hc; omega
  rw [PyProof.Rows.upper_ascii hA]
  refine ⟨sOk_all fun c hc => ?_, ?_⟩
  · have hc : c ∈ (x.cps.map PyProof.Rows.up1).toList := hc
    rw [Array.toList_map] at hc
    obtain ⟨d, hd, rfl⟩ := List.mem_map.mp hc
    have := hA d hd
    unfold PyProof.Rows.up1
    split <;> omega
  · show (x.cps.map PyProof.Rows.up1).size ≤ 8
    rw [Array.size_map]
    exact h2
theorem cut_ok {x : Str} (h : Nm x) (lo hi : Option Int) : PyData.strOk (cutStr x lo hi) = true ∧ (cutStr x lo hi).length ≤ 8 := by
  obtain ⟨h1, h2, h3⟩ := h
  unfold cutStr cut
  refine ⟨sOk_all fun c hc => ?_, ?_⟩
  · have := h3 c (List.mem_of_mem_drop (List.mem_of_mem_take (by simpa using hc)))
    omega
  · show (List.toArray _).size ≤ 8
    simp
    have : x.cps.toList.length ≤ 8 := by simpa using h2
    omega
theorem app_ok {x y : Str} (h : Nm x) (hy : PyData.strOk y = true) (hl : y.length ≤ 8) : PyData.strOk (x ++ y) = true ∧ (x ++ y).length ≤ 16 := by
  obtain ⟨a, b⟩ := nm_ok h
  refine ⟨sOk_app a hy, ?_⟩
  rw [strLen_append]
  omega
theorem strange_ok {pl ts : List Str} {rs : List Rl} {es : List (List Rl)} {many : Nat} (w : WF pl (rs :: es) ts many) : ∀ x ∈ strange pl rs, PyData.strOk x = true ∧ x.length ≤ 100 := by
  have nmr : ∀ r ∈ rs, Nm r.col ∧ Nm r.form := fun r hr => by
    obtain ⟨k, v⟩ := (w.es rs List.mem_cons_self).2.mem hr
    exact ⟨w.nm _ (List.mem_of_getElem? v.col), v.form⟩
  intro x hx
  unfold strange at hx
  simp only [List.mem_append, List.mem_map] at hx
  rcases hx with (((((hx | hx) | ⟨r, hr, rfl⟩) | ⟨r, hr, rfl⟩) | ⟨r, hr, rfl⟩) | ⟨r, hr, rfl⟩) | ⟨r, hr, rfl⟩
  · have : ∀ x ∈ [Str.ofString "", Str.ofString "put", Str.ofString "edition"], PyData.strOk x = true ∧ x.length ≤ 100 := by decide +kernel
    exact this x hx
  · exact ⟨(nm_ok (w.nmp x hx)).1, by have := (nm_ok (w.nmp x hx)).2; omega⟩
  · exact ⟨(nm_ok (nmr r hr).2).1, by have := (nm_ok (nmr r hr).2).2; omega⟩
  · have := cut_ok (nmr r hr).1 none (some (-1))
    exact ⟨this.1, by omega⟩
  · have := app_ok (y := Str.ofString "z") (nmr r hr).1 (by decide +kernel) (by decide)
    exact ⟨this.1, by omega⟩
  · have := app_ok (y := Str.ofString " ") (nmr r (List.mem_of_mem_take hr)).1 (by decide +kernel) (by decide)
    exact ⟨this.1, by omega⟩
  · have := up_ok (nmr r (List.mem_of_mem_take hr)).1
    exact ⟨this.1, by omega⟩
theorem law_run {call : Call} (hs : SrcFS call) (hd : DrawS call) (hp : PlanS call) (ht : TabS call) (hc : CopS call) (hi : InitS call) (hr : RightS call) {ns : List Int} (hn : ns.length ≤ 63) (hb : ∀ i ∈ ns, Builtin.Int.intBits i ≤ 1048576) {K : CK} {X : CX} (hK : K (.v (.dat (.bool true))) [.scr ns]) : runW (gm call) ir_law_v1 [.scr ns] K X := by
  have small : ∀ k : Nat, ((if (if (ns.length : Int) < 6 then (ns.length : Int) else 6) > 1 then (if (ns.length : Int) < 6 then (ns.length : Int) else 6) else 1)).toNat ≤ 6 ∧ smallI (if (if (ns.length : Int) < 6 then (ns.length : Int) else 6) > 1 then (if (ns.length : Int) < 6 then (ns.length : Int) else 6) else 1) ∧ (if (if (ns.length : Int) < 6 then (ns.length : Int) else 6) > 1 then (if (ns.length : Int) < 6 then (ns.length : Int) else 6) else 1) ≤ 16777216 := fun _ => by
    unfold smallI
    split <;> split <;> omega
  (repeat (first | refine Exists.intro _ (And.intro rfl ?_) | refine And.intro rfl ?_ | refine And.intro trivial ?_ | refine And.intro (Nat.le_of_ble_eq_true rfl) ?_ | refine And.intro (by decide) ?_))
  refine And.intro (small 0).2 ?_
  refine forD_det (List.replicate _ ()) (fun p _ => oneD (.int (p.length : Nat))) (encs_range0 _) (fun _ => [sv (.scr ns), none, none, none, none, none, none]) rfl ?_ ?_
  · intro p _ z e N hN
    have hpl := len_pre e
    rw [List.length_replicate] at hpl
    have hpl := Nat.lt_of_lt_of_le hpl (small 0).1
    refine hs _ _ _ _ hn hb (by omega) (fun a b hb => ?_)
    refine hd _ _ _ _ _ _ (by decide) (by decide) hb ⟨by decide, by decide⟩ (fun r a1 c1 g0 g1 g2 g3 => ?_)
    obtain ⟨s0, s1, s2, s3, ee, h0, h1, h2, h3⟩ := sizes_at g0 g1
    (repeat (first | refine Exists.intro _ (And.intro (ee) ?_) | refine And.intro (ee) ?_ | refine Exists.intro _ (And.intro rfl ?_) | refine And.intro rfl ?_ | refine And.intro trivial ?_ | refine And.intro (Nat.le_of_ble_eq_true rfl) ?_ | refine And.intro (by decide) ?_))
    refine hp _ _ _ _ _ _ _ _ _ hb ⟨g2, by omega⟩ h0 h1 h2 h3 (fun pl es ts many a' c' w k1 k2 => ?_)
    cases es with
    | nil => have := w.e1; simp at this
    | cons rs es =>
      have at0 : atI [PyData.list (pl.map .str), .list ((rs :: es).map edD)] 0 = some (.list (pl.map .str)) := rfl
      have at1 : atI [PyData.list (pl.map .str), .list ((rs :: es).map edD)] 1 = some (.list ((rs :: es).map edD)) := rfl
      have at2 : atI ((rs :: es).map edD) 0 = some (edD rs) := atI_zero _ _
      have hm := w.mm
      have hrl := (w.es rs List.mem_cons_self).1
      have nmr : ∀ r ∈ rs, Nm r.col := fun r hr => by
        obtain ⟨k, v⟩ := (w.es rs List.mem_cons_self).2.mem hr
        exact w.nm _ (List.mem_of_getElem? v.col)
      have hcut : cut (rs.map Rl.d) none (some (3 : Int)) = (rs.take 3).map Rl.d := by rw [show (3 : Int) = ((3 : Nat) : Int) from rfl, cut_take, List.map_take]
      have hL3 : (cut (rs.map Rl.d) none (some (3 : Int))).map oneD = encs (fun _ r => oneD (Rl.d r)) [] (rs.take 3) := by rw [hcut]; exact encs_mapmap _ _ _
      (repeat (first | refine Exists.intro _ (And.intro (at0) ?_) | refine And.intro (at0) ?_ | refine Exists.intro _ (And.intro ((by simp only [List.length_append, List.length_map, List.length_cons, List.length_nil, List.length_take]; omega)) ?_) | refine And.intro ((by simp only [List.length_append, List.length_map, List.length_cons, List.length_nil, List.length_take]; omega)) ?_ | refine Exists.intro _ (And.intro (at1) ?_) | refine And.intro (at1) ?_ | refine Exists.intro _ (And.intro (at2) ?_) | refine And.intro (at2) ?_ | refine Exists.intro _ (And.intro rfl ?_) | refine And.intro rfl ?_ | refine And.intro trivial ?_ | refine And.intro (Nat.le_of_ble_eq_true rfl) ?_ | refine And.intro (by decide) ?_))
      refine comp_sl rs (fun _ r => oneD r.d) (encs_mapmap _ _ _) (fun r => .str r.form) rfl (fun K h => h) ?_ ?_
      · intro p r z e N hN
        (repeat (first | refine Exists.intro _ (And.intro rfl ?_) | refine And.intro rfl ?_ | refine And.intro trivial ?_ | refine And.intro (Nat.le_of_ble_eq_true rfl) ?_ | refine And.intro (by decide) ?_))
        exact hN _ (fun K h => h)
      intro ms em
      simp only [em]
      clear em
      (repeat (first | refine Exists.intro _ (And.intro (at1) ?_) | refine And.intro (at1) ?_ | refine Exists.intro _ (And.intro (at2) ?_) | refine And.intro (at2) ?_ | refine Exists.intro _ (And.intro ((by simp only [List.length_append, List.length_map, List.length_cons, List.length_nil, List.length_take]; omega)) ?_) | refine And.intro ((by simp only [List.length_append, List.length_map, List.length_cons, List.length_nil, List.length_take]; omega)) ?_ | refine Exists.intro _ (And.intro rfl ?_) | refine And.intro rfl ?_ | refine And.intro trivial ?_ | refine And.intro (Nat.le_of_ble_eq_true rfl) ?_ | refine And.intro (by decide) ?_))
      refine comp_sl rs (fun _ r => oneD r.d) (encs_mapmap _ _ _) (fun r => .str (cutStr r.col none (some (-1)))) rfl (fun K h => h) ?_ ?_
      · intro p r z e N hN
        (repeat (first | refine Exists.intro _ (And.intro rfl ?_) | refine And.intro rfl ?_ | refine And.intro trivial ?_ | refine And.intro (Nat.le_of_ble_eq_true rfl) ?_ | refine And.intro (by decide) ?_))
        exact hN _ (fun K h => h)
      intro ms em
      simp only [em]
      clear em
      (repeat (first | refine Exists.intro _ (And.intro (at1) ?_) | refine And.intro (at1) ?_ | refine Exists.intro _ (And.intro (at2) ?_) | refine And.intro (at2) ?_ | refine Exists.intro _ (And.intro ((by simp only [List.length_append, List.length_map, List.length_cons, List.length_nil, List.length_take]; omega)) ?_) | refine And.intro ((by simp only [List.length_append, List.length_map, List.length_cons, List.length_nil, List.length_take]; omega)) ?_ | refine Exists.intro _ (And.intro rfl ?_) | refine And.intro rfl ?_ | refine And.intro trivial ?_ | refine And.intro (Nat.le_of_ble_eq_true rfl) ?_ | refine And.intro (by decide) ?_))
      refine comp_sl rs (fun _ r => oneD r.d) (encs_mapmap _ _ _) (fun r => .str (r.col ++ Str.ofString "z")) rfl (fun K h => h) ?_ ?_
      · intro p r z e N hN
        have hl : r.col.length + (Str.ofString "z").length ≤ 16777216 := by
          have := (nm_ok (nmr r (mem_pre e))).2
          have e1 : (Str.ofString "z").length = 1 := rfl
          omega
        (repeat (first | refine Exists.intro _ (And.intro (hl) ?_) | refine And.intro (hl) ?_ | refine Exists.intro _ (And.intro rfl ?_) | refine And.intro rfl ?_ | refine And.intro trivial ?_ | refine And.intro (Nat.le_of_ble_eq_true rfl) ?_ | refine And.intro (by decide) ?_))
        exact hN _ (fun K h => h)
      intro ms em
      simp only [em]
      clear em
      (repeat (first | refine Exists.intro _ (And.intro (at1) ?_) | refine And.intro (at1) ?_ | refine Exists.intro _ (And.intro (at2) ?_) | refine And.intro (at2) ?_ | refine Exists.intro _ (And.intro ((by simp only [List.length_append, List.length_map, List.length_cons, List.length_nil, List.length_take]; omega)) ?_) | refine And.intro ((by simp only [List.length_append, List.length_map, List.length_cons, List.length_nil, List.length_take]; omega)) ?_ | refine Exists.intro _ (And.intro rfl ?_) | refine And.intro rfl ?_ | refine And.intro trivial ?_ | refine And.intro (Nat.le_of_ble_eq_true rfl) ?_ | refine And.intro (by decide) ?_))
      refine comp_sl (rs.take 3) (fun _ r => oneD r.d) hL3 (fun r => .str (r.col ++ Str.ofString " ")) rfl (fun K h => h) ?_ ?_
      · intro p r z e N hN
        have hl : r.col.length + (Str.ofString " ").length ≤ 16777216 := by
          have := (nm_ok (nmr r (List.mem_of_mem_take (mem_pre e)))).2
          have e1 : (Str.ofString " ").length = 1 := rfl
          omega
        (repeat (first | refine Exists.intro _ (And.intro (hl) ?_) | refine And.intro (hl) ?_ | refine Exists.intro _ (And.intro rfl ?_) | refine And.intro rfl ?_ | refine And.intro trivial ?_ | refine And.intro (Nat.le_of_ble_eq_true rfl) ?_ | refine And.intro (by decide) ?_))
        exact hN _ (fun K h => h)
      intro ms em
      simp only [em]
      clear em
      (repeat (first | refine Exists.intro _ (And.intro (at1) ?_) | refine And.intro (at1) ?_ | refine Exists.intro _ (And.intro (at2) ?_) | refine And.intro (at2) ?_ | refine Exists.intro _ (And.intro ((by simp only [List.length_append, List.length_map, List.length_cons, List.length_nil, List.length_take]; omega)) ?_) | refine And.intro ((by simp only [List.length_append, List.length_map, List.length_cons, List.length_nil, List.length_take]; omega)) ?_ | refine Exists.intro _ (And.intro rfl ?_) | refine And.intro rfl ?_ | refine And.intro trivial ?_ | refine And.intro (Nat.le_of_ble_eq_true rfl) ?_ | refine And.intro (by decide) ?_))
      refine comp_sl (rs.take 3) (fun _ r => oneD r.d) hL3 (fun r => .str (Txt.upper r.col)) rfl (fun K h => h) ?_ ?_
      · intro p r z e N hN
        have hx := nmr r (List.mem_of_mem_take (mem_pre e))
        have hl : r.col.length ≤ 5592405 ∧ PyData.strOk (Txt.upper r.col) = true ∧ (Txt.upper r.col).length ≤ 16777216 := ⟨by have := (nm_ok hx).2; omega, (up_ok hx).1, by have := (up_ok hx).2; omega⟩
        (repeat (first | refine Exists.intro _ (And.intro (hl) ?_) | refine And.intro (hl) ?_ | refine Exists.intro _ (And.intro rfl ?_) | refine And.intro rfl ?_ | refine And.intro trivial ?_ | refine And.intro (Nat.le_of_ble_eq_true rfl) ?_ | refine And.intro (by decide) ?_))
        exact hN _ (fun K h => h)
      intro ms em
      simp only [em]
      clear em
      (repeat (first | refine Exists.intro _ (And.intro (at1) ?_) | refine And.intro (at1) ?_ | refine Exists.intro _ (And.intro (at2) ?_) | refine And.intro (at2) ?_ | refine Exists.intro _ (And.intro ((by simp only [List.length_append, List.length_map, List.length_cons, List.length_nil, List.length_take]; omega)) ?_) | refine And.intro ((by simp only [List.length_append, List.length_map, List.length_cons, List.length_nil, List.length_take]; omega)) ?_ | refine Exists.intro _ (And.intro rfl ?_) | refine And.intro rfl ?_ | refine And.intro trivial ?_ | refine And.intro (Nat.le_of_ble_eq_true rfl) ?_ | refine And.intro (by decide) ?_))
      have est : ([PyData.str (Str.ofString ""), .str (Str.ofString "put"), .str (Str.ofString "edition")] ++ pl.map PyData.str ++ rs.map (fun r => PyData.str r.form) ++ rs.map (fun r => PyData.str (cutStr r.col none (some (-1)))) ++ rs.map (fun r => PyData.str (r.col ++ Str.ofString "z")) ++ (rs.take 3).map (fun r => PyData.str (r.col ++ Str.ofString " ")) ++ (rs.take 3).map (fun r => PyData.str (Txt.upper r.col))) = (strange pl rs).map .str := by
        unfold strange
        simp only [List.map_append, List.map_map]
        rfl
      refine ht _ _ _ _ _ _ w ?_
      have r1 := hr pl rs es ts many (strange pl rs)
      rw [← est] at r1
      have r2 := hr pl rs es ts many ((strange pl rs).take 4)
      have e4 : ((strange pl rs).take 4).map PyData.str = cut ([PyData.str (Str.ofString ""), .str (Str.ofString "put"), .str (Str.ofString "edition")] ++ pl.map PyData.str ++ rs.map (fun r => PyData.str r.form) ++ rs.map (fun r => PyData.str (cutStr r.col none (some (-1)))) ++ rs.map (fun r => PyData.str (r.col ++ Str.ofString "z")) ++ (rs.take 3).map (fun r => PyData.str (r.col ++ Str.ofString " ")) ++ (rs.take 3).map (fun r => PyData.str (Txt.upper r.col))) none (some (4 : Int)) := by
        rw [est, show (4 : Int) = ((4 : Nat) : Int) from rfl, cut_take, List.map_take]
      rw [e4] at r2
      refine r1 _ _ w (strange_ok w) ?_
      (repeat (first | refine Exists.intro _ (And.intro (at1) ?_) | refine And.intro (at1) ?_ | refine Exists.intro _ (And.intro rfl ?_) | refine And.intro rfl ?_ | refine And.intro trivial ?_ | refine And.intro (Nat.le_of_ble_eq_true rfl) ?_ | refine And.intro (by decide) ?_))
      refine hc _ _ _ (by have := w.e2; omega) ?_
      (repeat (first | refine Exists.intro _ (And.intro (at0) ?_) | refine And.intro (at0) ?_ | refine Exists.intro _ (And.intro rfl ?_) | refine And.intro rfl ?_ | refine And.intro trivial ?_ | refine And.intro (Nat.le_of_ble_eq_true rfl) ?_ | refine And.intro (by decide) ?_))
      refine hi _ _ _ _ _ _ w ?_
      refine r2 _ _ w (fun x hx => strange_ok w x (List.mem_of_mem_take hx)) ?_
      exact hN
  · exact hK
theorem plain : Plain 12 := fun ns hn hb => call_of (fn := ir_law_v1) rfl (law_run (srcF_S 10) (fun a b c m K X h1 h2 h3 h4 h5 => draw_ok h1 h2 h3 h4 h5) (plan_S 8) (tab_S 7) (cop_S 10) (init_S 8) (right_S 8) hn hb rfl)
end K02
end QL
open PySem PySem.W PyProof.Rows
theorem PySem.Challenge.cw_keptworths_k02_tables_told_holds : PySem.Challenge.rw_keptworths_k02_tables_told.Holds :=
  QL.K02.ends rfl QL.K02.plain
end
