import PyProof.Rows.All
import Open.Row
import Wide.All
import OpenK.AllK
import Wide.FinOn
import HandS.ForMost
import HandS.Exc
import HandS.TryOnly
import HandS.ExcOwn
import HandS.WordsExc
import HandS.TupAny
import HandS.Deep
import HandS.TupLe
import HandS.IsInst
import HandS.Flow
import HandS.ExcInit
import HandS.ExcField
import KE.KExcIs
import HandS.Iter
import HandS.Defaults
import HandS.HeadEnd
import HandS.HeadHook4
import KE.KStateDown
import HandS.Head0
import HandS.Head1
import HandS.Head2
import HandS.HeadHook1
import HandS.HeadHook2
import PySem.Challenge.RW_sureheaps_k00_texts_as_tokens
set_option Elab.async false
set_option linter.all false
set_option maxRecDepth 100000
set_option maxHeartbeats 4000000
set_option autoImplicit false
/-! PI: a small interpreter for the subset of Python that the program uses. Plain Lean. -/
namespace PI

/-- pure data -/
inductive D where
  | non | bl (b : Bool) | int (i : Int) | str (s : List Nat) | tup (xs : List D) | lst (xs : List D)
  deriving Inhabited

/-- a value: data, or a place of the store -/
inductive Val where
  | d (x : D) | loc (n : Nat)
  deriving Inhabited

inductive Obj where
  | lst (xs : List D) | lstV (xs : List Val)
  | dct (kvs : List (D × D)) | dctV (kvs : List (D × Val))
  | ins (c : Nat) (fs : List (Nat × Val))
  | dead
  deriving Inhabited

abbrev Store := List Obj
abbrev Env := List (Option Val)

/-- an exception: its class, its arguments -/
structure Exn where
  c : Nat
  args : List D

inductive R (α : Type) where
  | ok (a : α) (st : Store) | exc (x : Exn) (st : Store) | bad

def R.bind {α β : Type} (r : R α) (f : α → Store → R β) : R β :=
  match r with
  | .ok a st => f a st
  | .exc x st => .exc x st
  | .bad => .bad

def ofO {α : Type} (o : Option α) (st : Store) : R α := match o with
  | some a => .ok a st
  | none => .bad

/-! ### equality -/
mutual
def eqv : D → D → Bool
  | .non, .non => true
  | .bl a, .bl b => a == b
  | .bl a, .int j => (if a then 1 else 0) == j
  | .int i, .bl b => i == (if b then 1 else 0)
  | .int i, .int j => i == j
  | .str x, .str y => x == y
  | .lst xs, .lst ys => eqvs xs ys
  | .tup xs, .tup ys => eqvs xs ys
  | _, _ => false
def eqvs : List D → List D → Bool
  | [], [] => true
  | x :: xs, y :: ys => eqv x y && eqvs xs ys
  | _, _ => false
end
mutual
/-- not deeper than n -/
def dle : Nat → D → Bool
  | 0, .tup _ => false
  | 0, .lst _ => false
  | n + 1, .tup xs => dles n xs
  | n + 1, .lst xs => dles n xs
  | _, _ => true
def dles : Nat → List D → Bool
  | _, [] => true
  | n, x :: xs => dle n x && dles n xs
end
/-- == of data, where it is not too deep -/
def eqD (x y : D) : Option Bool :=
  if dle 60 x || dle 60 y then some (eqv x y) else none

/-- a list of the store as data -/
def Val.data? : Val → Option D
  | .d x => some x
  | .loc _ => none
def Obj.items? : Obj → Option (List Val)
  | .lst xs => some (xs.map .d)
  | .lstV xs => some xs
  | _ => none
/-- the data of a value, lists of the store as they stand (two deep) -/
def snap (st : Store) (v : Val) : Option D :=
  match v with
  | .d x => some x
  | .loc l => match st[l]? with
    | some (.lst xs) => some (.lst xs)
    | _ => none

def mkLst (xs : List Val) : Obj := match xs.mapM Val.data? with
  | some ds => .lst ds
  | none => .lstV xs

/-! ### operators -/
inductive Op2 where
  | add | sub | mul | fdiv | mod | pow
inductive CmpO where
  | eq | ne | lt | le | gt | ge | is | isnt | isin | notin
inductive BF where
  | len | int | str | tuple | list | min2 | max2
inductive Ty where
  | int | str | bool | tuple | list
inductive BM where
  | append | join | extend | pop

def truthy (st : Store) : Val → Option Bool
  | .d .non => some false
  | .d (.bl b) => some b
  | .d (.int i) => some (i != 0)
  | .d (.str s) => some (!s.isEmpty)
  | .d (.tup xs) => some (!xs.isEmpty)
  | .d (.lst xs) => some (!xs.isEmpty)
  | .loc l => match st[l]? with
    | some (.lst xs) => some (!xs.isEmpty)
    | some (.lstV xs) => some (!xs.isEmpty)
    | some (.dct xs) => some (!xs.isEmpty)
    | some (.dctV xs) => some (!xs.isEmpty)
    | _ => none

/-- the largest length of a text or a list -/
def big : Nat := 16777216
def mulOk (i j : Int) : Bool := (decide (-(2 ^ 64) < i) && decide (i < 2 ^ 64)) || (decide (-(2 ^ 64) < j) && decide (j < 2 ^ 64))

def alloc (o : Obj) (st : Store) : R Val := .ok (.loc st.length) (st ++ [o])
/-- the list at a value, to be read -/
def listAt (st : Store) : Val → Option (List Val)
  | .d (.lst xs) => some (xs.map .d)
  | .loc l => match st[l]? with
    | some o => o.items?
    | none => none
  | _ => none

def bin (o : Op2) (a b : Val) (st : Store) : R Val :=
  match o, a, b with
  | .add, .d (.int i), .d (.int j) => .ok (.d (.int (i + j))) st
  | .add, .d (.str x), .d (.str y) => if x.length + y.length ≤ big then .ok (.d (.str (x ++ y))) st else .bad
  | .add, .d (.tup x), .d (.tup y) => if x.length + y.length ≤ big then .ok (.d (.tup (x ++ y))) st else .bad
  | .add, .loc l, .loc k => match (st[l]?).bind Obj.items?, (st[k]?).bind Obj.items? with
    | some xs, some ys => if xs.length + ys.length ≤ big then alloc (mkLst (xs ++ ys)) st else .bad
    | _, _ => .bad
  | .sub, .d (.int i), .d (.int j) => .ok (.d (.int (i - j))) st
  | .mul, .d (.int i), .d (.int j) => if mulOk i j then .ok (.d (.int (i * j))) st else .bad
  | .fdiv, .d (.int i), .d (.int j) => if 0 < j ∧ j < 1073741824 then .ok (.d (.int (i / j))) st else .bad
  | .mod, .d (.int i), .d (.int j) => if 0 < j then .ok (.d (.int (i % j))) st else .bad
  | .pow, .d (.int i), .d (.int j) => if 0 ≤ j ∧ j ≤ 1000000 ∧ i.natAbs < 2 ^ 64 then .ok (.d (.int (i ^ j.toNat))) st else .bad
  | _, _, _ => .bad

/-- x op= y, of what isn't changed in place -/
def binI (o : Op2) (a b : Val) (st : Store) : R Val :=
  match o, a, b with
  | .add, .d (.int i), .d (.int j) => .ok (.d (.int (i + j))) st
  | .add, .d (.str x), .d (.str y) => if x.length + y.length ≤ big then .ok (.d (.str (x ++ y))) st else .bad
  | .sub, .d (.int i), .d (.int j) => .ok (.d (.int (i - j))) st
  | .mul, .d (.int i), .d (.int j) => if mulOk i j then .ok (.d (.int (i * j))) st else .bad
  | .fdiv, .d (.int i), .d (.int j) => if 0 < j ∧ j < 1073741824 then .ok (.d (.int (i / j))) st else .bad
  | .mod, .d (.int i), .d (.int j) => if 0 < j then .ok (.d (.int (i % j))) st else .bad
  | _, _, _ => .bad

/-- x in ys, by == -/
def inD (x : D) (ys : List D) : Option Bool :=
  if dle 60 x then some (ys.any fun y => eqv y x) else none

def isNone : Val → Bool
  | .d .non => true
  | _ => false
def cmpIn (a b : Val) (st : Store) : Option Bool :=
  match a, b with
  | .d (.str x), .d (.str y) => match x with
    | [c] => some (y.contains c)
    | _ => none
  | .d x, .d (.tup ys) => inD x ys
  | .d x, .d (.lst ys) => inD x ys
  | .d x, .loc l => match st[l]? with
    | some (.lst ys) => inD x ys
    | some (.dct kvs) => inD x (kvs.map (·.1))
    | some (.dctV kvs) => inD x (kvs.map (·.1))
    | _ => none
  | _, _ => none
def cmpEq (a b : Val) (st : Store) : Option Bool :=
  match snap st a, snap st b with
  | some x, some y => eqD x y
  | _, _ => none
def cmp (o : CmpO) (a b : Val) (st : Store) : Option Bool :=
  match o with
  | .eq => cmpEq a b st
  | .ne => (cmpEq a b st).map (!·)
  | .is => if isNone b then some (isNone a) else match a, b with
    | .d (.bl x), .d (.bl y) => some (x == y)
    | _, _ => none
  | .isnt => if isNone b then some (!isNone a) else match a, b with
    | .d (.bl x), .d (.bl y) => some (!(x == y))
    | _, _ => none
  | .isin => cmpIn a b st
  | .notin => (cmpIn a b st).map (!·)
  | .lt => match a, b with
    | .d (.int i), .d (.int j) => some (decide (i < j))
    | _, _ => none
  | .le => match a, b with
    | .d (.int i), .d (.int j) => some (decide (i ≤ j))
    | _, _ => none
  | .gt => match a, b with
    | .d (.int i), .d (.int j) => some (decide (j < i))
    | _, _ => none
  | .ge => match a, b with
    | .d (.int i), .d (.int j) => some (decide (j ≤ i))
    | _, _ => none

/-- the place of an index -/
def ixN (n : Nat) (i : Int) : Option Nat := if 0 ≤ i then (if i < n then some i.toNat else none) else if -(n : Int) ≤ i then some (i + n).toNat else none
def index (a i : Val) (st : Store) : R Val :=
  match i with
  | .d (.int i) => match a with
    | .d (.str s) => match ixN s.length i with
      | some k => match s[k]? with
        | some c => .ok (.d (.str [c])) st
        | none => .bad
      | none => .bad
    | .d (.tup xs) => match ixN xs.length i with
      | some k => match xs[k]? with
        | some x => .ok (.d x) st
        | none => .bad
      | none => .bad
    | _ => match listAt st a with
      | some xs => match ixN xs.length i with
        | some k => match xs[k]? with
          | some x => .ok x st
          | none => .bad
        | none => .bad
      | none => .bad
  | _ => .bad

/-- where a slice's end lies (d where it is left out) -/
def sIx (n d : Nat) : Option Int → Nat
  | none => d
  | some v => if v < 0 then (v + (n : Int)).toNat else min v.toNat n
def cut {α : Type} (xs : List α) (lo hi : Option Int) : List α := (xs.drop (sIx xs.length 0 lo)).take (sIx xs.length xs.length hi - sIx xs.length 0 lo)
def optInt : Option Val → Option (Option Int)
  | none => some none
  | some (.d (.int i)) => some (some i)
  | _ => none
def slice (a : Val) (lo hi : Option Val) (st : Store) : R Val :=
  match optInt lo, optInt hi with
  | some l, some h => match a with
    | .d (.str s) => .ok (.d (.str (cut s l h))) st
    | .d (.tup xs) => .ok (.d (.tup (cut xs l h))) st
    | .loc k => match st[k]? with
      | some (.lst xs) => alloc (.lst (cut xs l h)) st
      | some (.lstV xs) => alloc (mkLst (cut xs l h)) st
      | _ => .bad
    | .d (.lst xs) => alloc (.lst (cut xs l h)) st
    | _ => .bad
  | _, _ => .bad

/-- decimal figures -/
def figs : Nat → Nat → List Nat
  | 0, _ => []
  | k + 1, n => if n < 10 then [48 + n] else figs k (n / 10) ++ [48 + n % 10]
def natStr (n : Nat) : List Nat := figs (n + 1) n
def intStr (i : Int) : List Nat := if i < 0 then 45 :: natStr i.natAbs else natStr i.natAbs

def bcall (f : BF) (vs : List Val) (st : Store) : R Val :=
  match f, vs with
  | .len, [.d (.str s)] => .ok (.d (.int s.length)) st
  | .len, [.d (.tup xs)] => .ok (.d (.int xs.length)) st
  | .len, [v] => match listAt st v with
    | some xs => .ok (.d (.int xs.length)) st
    | none => match v with
      | .loc l => match st[l]? with
        | some (.dct kvs) => .ok (.d (.int kvs.length)) st
        | some (.dctV kvs) => .ok (.d (.int kvs.length)) st
        | _ => .bad
      | _ => .bad
  | .int, [.d (.int i)] => .ok (.d (.int i)) st
  | .int, [.d (.bl b)] => .ok (.d (.int (if b then 1 else 0))) st
  | .tuple, [.d (.tup xs)] => .ok (.d (.tup xs)) st
  | .tuple, [v] => match listAt st v with
    | some xs => match xs.mapM Val.data? with
      | some ds => .ok (.d (.tup ds)) st
      | none => .bad
    | none => .bad
  | .list, [.d (.tup xs)] => alloc (.lst xs) st
  | .list, [v] => match listAt st v with
    | some xs => alloc (mkLst xs) st
    | none => .bad
  | _, _ => .bad

def isTy (st : Store) (t : Ty) (v : Val) : Option Bool :=
  match v with
  | .d .non => some false
  | .d (.bl _) => some (match t with | .bool => true | .int => true | _ => false)
  | .d (.int _) => some (match t with | .int => true | _ => false)
  | .d (.str _) => some (match t with | .str => true | _ => false)
  | .d (.tup _) => some (match t with | .tuple => true | _ => false)
  | .d (.lst _) => some (match t with | .list => true | _ => false)
  | .loc l => match st[l]? with
    | some (.lst _) => some (match t with | .list => true | _ => false)
    | some (.lstV _) => some (match t with | .list => true | _ => false)
    | _ => none

def joinS (sep : List Nat) : List (List Nat) → List Nat
  | [] => []
  | [x] => x
  | x :: y :: r => x ++ sep ++ joinS sep (y :: r)
def strsOf (xs : List Val) : Option (List (List Nat)) := xs.mapM fun v => match v with
  | .d (.str s) => some s
  | _ => none

def bmeth (m : BM) (o : Val) (vs : List Val) (st : Store) : R Val :=
  match m, o, vs with
  | .append, .loc l, [v] => match st[l]? with
    | some (.lst xs) => if xs.length < big then
        (match v with
          | .d x => .ok (.d .non) (st.set l (.lst (xs ++ [x])))
          | v => .ok (.d .non) (st.set l (.lstV (xs.map .d ++ [v]))))
        else .bad
    | some (.lstV xs) => if xs.length < big then .ok (.d .non) (st.set l (.lstV (xs ++ [v]))) else .bad
    | _ => .bad
  | _, _, _ => .bad

/-- the receiver is of the kind that the method wants -/
def recv (m : BM) (st : Store) (o : Val) : Bool :=
  match m, o with
  | .append, .loc l => match st[l]? with
    | some (.lst _) => true
    | some (.lstV _) => true
    | _ => false
  | _, _ => false

/-! ### syntax -/
inductive E where
  | c (x : D) | v (i : Nat)
  | tup (es : List E) | lst (es : List E)
  | bin (o : Op2) (a b : E)
  | cmp (o : CmpO) (a b : E) | cmp2 (o o' : CmpO) (a b c : E)
  | and (a b : E) | or (a b : E) | not (a : E)
  | ite (t a b : E)
  | ix (a i : E) | sl (a : E) (lo hi : Option E)
  | call (f : Nat) (es : List E)
  | bcall (f : BF) (es : List E)
  | isi (a : E) (t : Ty)
  | bm (m : BM) (o : E) (es : List E)

inductive T where
  | name (i : Nat) | tup (is : List Nat) | sub (o i : E)

inductive It where
  | e (x : E) | r1 (n : E) | r2 (a b : E)

/-- what an except suite returns: a constant; if it is of class c1 a tuple of the fields at those places, else None; whether it is of class c1 -/
inductive Hd where
  | con (x : D) | fields (c1 : Nat) (fs : List Nat) | isa (c1 : Nat)
inductive S where
  | asg (t : T) (e : E) | aug (i : Nat) (o : Op2) (e : E)
  | expr (e : E) | ret (e : E) | retN
  | if_ (c : E) (a b : List S)
  | while_ (c : E) (b : List S)
  | for_ (t : T) (it : It) (b : List S)
  | brk | cnt | pass
  | raise (c : Nat) (es : List E)
  /-- the body; at an exception under class c the suite's answer -/
  | try_ (b : List S) (c : Nat) (h : Hd)

structure Fn where
  np : Nat
  ns : Nat
  body : List S

inductive Fl where
  | nx (env : Env) | rt (v : Val) | bk (env : Env) | ct (env : Env)

/-! ### expressions -/
abbrev CF := Nat → List Val → Store → R Val
mutual
def ev (cf : CF) : E → Env → Store → R Val
  | .c x, _, st => .ok (.d x) st
  | .v i, env, st => match env[i]? with
    | some (some v) => .ok v st
    | _ => .bad
  | .tup es, env, st => (evs cf es env st).bind fun vs st => match vs.mapM Val.data? with
    | some ds => if ds.length ≤ big then .ok (.d (.tup ds)) st else .bad
    | none => .bad
  | .lst es, env, st => (evs cf es env st).bind fun vs st => if vs.length ≤ big then alloc (mkLst vs) st else .bad
  | .bin o a b, env, st => (ev cf a env st).bind fun x st => (ev cf b env st).bind fun y st => bin o x y st
  | .cmp o a b, env, st => (ev cf a env st).bind fun x st => (ev cf b env st).bind fun y st => ofO ((cmp o x y st).map fun k => .d (.bl k)) st
  | .cmp2 o o' a b c, env, st => (ev cf a env st).bind fun x st => (ev cf b env st).bind fun y st => (ofO (cmp o x y st) st).bind fun k st =>
      if k then (ev cf c env st).bind fun z st => ofO ((cmp o' y z st).map fun k => .d (.bl k)) st else .ok (.d (.bl false)) st
  | .and a b, env, st => (ev cf a env st).bind fun x st => (ofO (truthy st x) st).bind fun k st => if k then ev cf b env st else .ok x st
  | .or a b, env, st => (ev cf a env st).bind fun x st => (ofO (truthy st x) st).bind fun k st => if k then .ok x st else ev cf b env st
  | .not a, env, st => (ev cf a env st).bind fun x st => (ofO (truthy st x) st).bind fun k st => .ok (.d (.bl (!k))) st
  | .ite t a b, env, st => (ev cf t env st).bind fun x st => (ofO (truthy st x) st).bind fun k st => if k then ev cf a env st else ev cf b env st
  | .ix a i, env, st => (ev cf a env st).bind fun x st => (ev cf i env st).bind fun y st => index x y st
  | .sl a lo hi, env, st => (ev cf a env st).bind fun x st => (evo cf lo env st).bind fun l st => if (optInt l).isSome then (evo cf hi env st).bind fun h st => slice x l h st else .bad
  | .call f es, env, st => (evs cf es env st).bind fun vs st => cf f vs st
  | .bcall f es, env, st => (evs cf es env st).bind fun vs st => bcall f vs st
  | .isi a t, env, st => (ev cf a env st).bind fun x st => ofO ((isTy st t x).map fun k => .d (.bl k)) st
  | .bm m o es, env, st => (ev cf o env st).bind fun x st => if recv m st x then (evs cf es env st).bind fun vs st => bmeth m x vs st else .bad
def evs (cf : CF) : List E → Env → Store → R (List Val)
  | [], _, st => .ok [] st
  | e :: es, env, st => (ev cf e env st).bind fun x st => (evs cf es env st).bind fun xs st => .ok (x :: xs) st
def evo (cf : CF) : Option E → Env → Store → R (Option Val)
  | none, _, st => .ok none st
  | some e, env, st => (ev cf e env st).bind fun x st => .ok (some x) st
end
def tr (cf : CF) (e : E) (env : Env) (st : Store) : R Bool := (ev cf e env st).bind fun x st => ofO (truthy st x) st

/-! ### targets -/
def setItem (o i v : Val) (st : Store) : R Unit :=
  match o, i with
  | .loc l, .d (.int i) => match st[l]? with
    | some (.lst xs) => match ixN xs.length i with
      | some k => match v with
        | .d x => .ok () (st.set l (.lst (xs.set k x)))
        | v => .ok () (st.set l (.lstV ((xs.map .d).set k v)))
      | none => .bad
    | some (.lstV xs) => match ixN xs.length i with
      | some k => .ok () (st.set l (.lstV (xs.set k v)))
      | none => .bad
    | _ => .bad
  | _, _ => .bad
def setAll : List Nat → List D → Env → Option Env
  | [], [], env => some env
  | i :: is, x :: xs, env => setAll is xs (env.set i (some (.d x)))
  | _, _, _ => none
def asg (cf : CF) : T → Val → Env → Store → R Env
  | .name i, v, env, st => .ok (env.set i (some v)) st
  | .tup is, .d (.tup xs), env, st => ofO (setAll is xs env) st
  | .tup _, _, _, _ => .bad
  | .sub o i, v, env, st => (ev cf o env st).bind fun x st => (ev cf i env st).bind fun y st => (setItem x y v st).bind fun _ st => .ok env st

/-! ### loops -/
def fuel : Nat := 1000000
def whileF (c : Env → Store → R Bool) (b : Env → Store → R Fl) : Nat → Env → Store → R Fl
  | 0, _, _ => .bad
  | n + 1, env, st => (c env st).bind fun k st =>
      if k then (b env st).bind fun f st => match f with
        | .nx env => whileF c b n env st
        | .ct env => whileF c b n env st
        | .bk env => .ok (.nx env) st
        | .rt v => .ok (.rt v) st
      else .ok (.nx env) st
/-- over things that stand still -/
def forD (g : Val → Env → Store → R Env) (b : Env → Store → R Fl) : List Val → Env → Store → R Fl
  | [], env, st => .ok (.nx env) st
  | x :: xs, env, st => (g x env st).bind fun env st => (b env st).bind fun f st => match f with
    | .nx env => forD g b xs env st
    | .ct env => forD g b xs env st
    | .bk env => .ok (.nx env) st
    | .rt v => .ok (.rt v) st
/-- over a list of the store, as it stands at each turn -/
def forL (g : Val → Env → Store → R Env) (b : Env → Store → R Fl) (l : Nat) : Nat → Nat → Env → Store → R Fl
  | 0, _, _, _ => .bad
  | n + 1, i, env, st => match (st[l]?).bind Obj.items? with
    | none => .bad
    | some xs => match xs[i]? with
      | none => .ok (.nx env) st
      | some x => (g x env st).bind fun env st => (b env st).bind fun f st => match f with
        | .nx env => forL g b l n (i + 1) env st
        | .ct env => forL g b l n (i + 1) env st
        | .bk env => .ok (.nx env) st
        | .rt v => .ok (.rt v) st
def rangeL (lo : Int) (n : Nat) : List Val := (List.range n).map fun (k : Nat) => Val.d (.int (lo + k))
def rngOk (i : Int) : Bool := decide (-(2 ^ 62) ≤ i) && decide (i < 2 ^ 62)
/-- what a loop walks: things that stand still, or a list of the store -/
inductive Ity where
  | d (xs : List Val) | l (n : Nat)
def itOf (v : Val) (st : Store) : R Ity :=
  match v with
  | .d (.tup xs) => .ok (.d (xs.map .d)) st
  | .d (.lst xs) => .ok (.d (xs.map .d)) st
  | .d (.str s) => .ok (.d (s.map fun c => .d (.str [c]))) st
  | .loc l => match (st[l]?).bind Obj.items? with
    | some _ => .ok (.l l) st
    | none => .bad
  | _ => .bad
def evIt (cf : CF) (it : It) (env : Env) (st : Store) : R Ity :=
  match it with
  | .e x => (ev cf x env st).bind fun v st => itOf v st
  | .r1 n => (evs cf [n] env st).bind fun vs st => match vs with
    | [.d (.int j)] => if rngOk j then .ok (.d (rangeL 0 j.toNat)) st else .bad
    | _ => .bad
  | .r2 a c => (evs cf [a, c] env st).bind fun vs st => match vs with
    | [.d (.int i), .d (.int j)] => if rngOk i && rngOk j then .ok (.d (rangeL i (j - i).toNat)) st else .bad
    | _ => .bad
def forGo (g : Val → Env → Store → R Env) (b : Env → Store → R Fl) (y : Ity) (env : Env) (st : Store) : R Fl :=
  match y with
  | .d xs => forD g b xs env st
  | .l l => forL g b l fuel 0 env st
def forI (cf : CF) (g : Val → Env → Store → R Env) (b : Env → Store → R Fl) (it : It) (env : Env) (st : Store) : R Fl :=
  (evIt cf it env st).bind fun y st => forGo g b y env st

def datas (vs : List Val) : Option (List D) := vs.mapM Val.data?
/-- the classes of the package's errors: 0 HeapFault, 1 TextFault, 2 ImageFault -/
def subCls (c d : Nat) : Bool := c == d || d == 0
def fieldsAt (ds : List D) (fs : List Nat) : Option (List D) := fs.mapM fun i => ds[i]?

def hdRes (h : Hd) (x : Exn) : Option D := match h with
  | .con d => some d
  | .fields c1 fs => if subCls x.c c1 then (fieldsAt x.args fs).map .tup else some .non
  | .isa c1 => some (.bl (subCls x.c c1))
/-! ### statements -/
mutual
def ex (cf : CF) : S → Env → Store → R Fl
  | .asg t e, env, st => (ev cf e env st).bind fun v st => (asg cf t v env st).bind fun env st => .ok (.nx env) st
  | .aug i o e, env, st => match env[i]? with
    | some (some x) => (ev cf e env st).bind fun y st => (binI o x y st).bind fun z st => .ok (.nx (env.set i (some z))) st
    | _ => .bad
  | .expr e, env, st => (ev cf e env st).bind fun _ st => .ok (.nx env) st
  | .ret e, env, st => (ev cf e env st).bind fun v st => .ok (.rt v) st
  | .retN, _, st => .ok (.rt (.d .non)) st
  | .if_ c a b, env, st => (tr cf c env st).bind fun k st => if k then exs cf a env st else exs cf b env st
  | .while_ c b, env, st => whileF (tr cf c) (exs cf b) fuel env st
  | .for_ t it b, env, st => forI cf (asg cf t) (exs cf b) it env st
  | .brk, env, st => .ok (.bk env) st
  | .cnt, env, st => .ok (.ct env) st
  | .pass, env, st => .ok (.nx env) st
  | .raise c es, env, st => (evs cf es env st).bind fun vs st => match vs with
    | [.d p, .d r] => .exc ⟨c, [r, p]⟩ st
    | _ => .bad
  | .try_ b c h, env, st => match exs cf b env st with
    | .ok f st => .ok f st
    | .bad => .bad
    | .exc x st => if subCls x.c c then (match hdRes h x with
        | some d => .ok (.rt (.d d)) st
        | none => .bad) else .exc x st
def exs (cf : CF) : List S → Env → Store → R Fl
  | [], env, st => .ok (.nx env) st
  | s :: ss, env, st => (ex cf s env st).bind fun f st => match f with
    | .nx env => exs cf ss env st
    | f => .ok f st
end

/-! ### calls -/
def Val.locs : Val → List Nat
  | .loc l => [l]
  | .d _ => []
def Obj.locs : Obj → List Nat
  | .lstV xs => xs.flatMap Val.locs
  | .dctV kvs => kvs.flatMap fun p => p.2.locs
  | .ins _ fs => fs.flatMap fun p => p.2.locs
  | _ => []
def reach (st : Store) : Nat → List Nat → List Nat → List Nat
  | 0, _, acc => acc
  | _, [], acc => acc
  | n + 1, l :: work, acc => if acc.contains l then reach st n work acc else match st[l]? with
    | some o => reach st n (o.locs ++ work) (acc ++ [l])
    | none => reach st n work acc
def renN (ord : List Nat) (l : Nat) : Option Nat := ord.findIdx? (· == l)
def renV (f : Nat → Option Nat) : Val → Option Val
  | .d x => some (.d x)
  | .loc l => (f l).map .loc
def renO (f : Nat → Option Nat) : Obj → Option Obj
  | .lstV xs => (xs.mapM (renV f)).map .lstV
  | .dctV kvs => (kvs.mapM fun p => (renV f p.2).map fun v => (p.1, v)).map .dctV
  | .ins c fs => (fs.mapM fun p => (renV f p.2).map fun v => (p.1, v)).map (.ins c)
  | o => some o
def objAt (st : Store) (f : Nat → Option Nat) (l : Nat) : Option Obj := (st[l]?).bind (renO f)
def putAll : List Nat → List Obj → Store → Option Store
  | [], _, st => some st
  | _ :: _, [], _ => none
  | l :: ls, o :: os, st => putAll ls os (st.set l o)
/-- back from the callee's store st2 to the caller's st; its first places are ord; roots: what comes back -/
def back {α : Type} (ord : List Nat) (st st2 : Store) (roots : List Nat) (fin : (Nat → Option Nat) → Option α) : Option (α × Store) :=
  let k := ord.length
  let new := (reach st2 1000 (List.range k ++ roots) []).filter fun l => decide (k ≤ l)
  let f : Nat → Option Nat := fun l => if l < k then ord[l]? else (renN new l).map (st.length + ·)
  ((List.range k).mapM (objAt st2 f)).bind fun olds => (new.mapM (objAt st2 f)).bind fun news =>
    (putAll ord olds st).bind fun st' => (fin f).map fun a => (a, st' ++ news)
def framed (g : List Val → Store → R Val) (args : List Val) (st : Store) : R Val :=
  let ord := reach st 1000 (args.flatMap Val.locs) []
  match args.mapM (renV (renN ord)), ord.mapM (objAt st (renN ord)) with
  | some args', some st' => match g args' st' with
    | .ok v st2 => match back ord st st2 v.locs (fun f => renV f v) with
      | some (v', st3) => .ok v' st3
      | none => .bad
    | .exc x st2 => match back ord st st2 [] (fun _ => some ()) with
      | some (_, st3) => .exc x st3
      | none => .bad
    | .bad => .bad
  | _, _ => .bad

def runF (cf : CF) (F : Fn) (args : List Val) (st : Store) : R Val :=
  if args.length = F.np then
    (exs cf F.body (args.map some ++ List.replicate (F.ns - F.np) none) st).bind fun f st => match f with
      | .rt v => .ok v st
      | .nx _ => .ok (.d .non) st
      | _ => .bad
  else .bad
def callN (P : List Fn) : Nat → CF
  | 0, _, _, _ => .bad
  | n + 1, f, args, st => match P[f]? with
    | some F => framed (runF (callN P n) F) args st
    | none => .bad
end PI
/-! CMP: from the model's syntax to the interpreter's. -/
namespace PI
open PySem

inductive GRef where
  | fn (f : Nat) | con (x : D) | cls (c : Nat)

/-- a def's names by slot, its scope, the module's names -/
structure CC where
  N : List Str
  names : List (Str × NameKind)
  G : List (Str × GRef)

def ixOf (x : Str) : List Str → Nat → Option Nat
  | [], _ => none
  | y :: ys, k => if x = y then some k else ixOf x ys (k + 1)
/-- a name that can be read -/
def CC.slot (C : CC) (x : Str) : Option Nat :=
  match C.names.lookup x with
  | some .local => ixOf x C.N 0
  | some .cell => ixOf x C.N 0
  | some .free => ixOf x C.N 0
  | _ => none
/-- a name that can be stored -/
def CC.own (C : CC) (x : Str) : Option Nat :=
  match C.names.lookup x with
  | some .local => ixOf x C.N 0
  | some .cell => ixOf x C.N 0
  | _ => none
def CC.glob (C : CC) (x : Str) : Bool := match C.names.lookup x with
  | some .globalImplicit => true
  | _ => false
/-- a built-in's name -/
def CC.blt (C : CC) (x : Str) : Bool := C.glob x && (C.G.lookup x).isNone

def bfOf (x : Str) : Option BF :=
  if x = "len" then some .len else if x = "int" then some .int else if x = "tuple" then some .tuple else if x = "list" then some .list else none
def tyOf (x : Str) : Option Ty :=
  if x = "int" then some .int else if x = "str" then some .str else if x = "bool" then some .bool else if x = "tuple" then some .tuple else if x = "list" then some .list else none
def bmOf (x : Str) : Option BM := if x = "append" then some .append else none
def opIs : Operator → Option Op2
  | .Add => some .add | .Sub => some .sub | .Mult => some .mul | .FloorDiv => some .fdiv | .Mod => some .mod | .Pow => some .pow
  | _ => none
def cmpIs : CmpOp → CmpO
  | .Eq => .eq | .NotEq => .ne | .Lt => .lt | .LtE => .le | .Gt => .gt | .GtE => .ge | .Is => .is | .IsNot => .isnt | .In => .isin | .NotIn => .notin
def notSet : PySem.Expr → Bool
  | .Set .. => false
  | _ => true
def notSlice : PySem.Expr → Bool
  | .Slice .. => false
  | _ => true
def noSuper : PySem.Expr → Bool
  | .Call (.Name _ _) [] [] _ => false
  | _ => true

def cEs (f : PySem.Expr → Option E) : List PySem.Expr → Option (List E)
  | [] => some []
  | e :: es => match f e with
    | some a => match cEs f es with
      | some as => some (a :: as)
      | none => none
    | none => none
def cBool (k : E → E → E) (f : PySem.Expr → Option E) : List PySem.Expr → Option E
  | [] => none
  | e :: es => match es with
    | [] => f e
    | _ :: _ => match f e with
      | some a => match cBool k f es with
        | some b => some (k a b)
        | none => none
      | none => none
def cO (f : PySem.Expr → Option E) : Option PySem.Expr → Option (Option E)
  | none => some none
  | some e => match f e with
    | some a => some (some a)
    | none => none

def cConst : Const → Option D
  | .none => some .non
  | .bool b => some (.bl b)
  | .int i => some (.int i)
  | .str s => if s.cps.all (· < 0x110000) && decide (s.cps.size ≤ 1000000) then some (.str s.cps.toList) else none
  | _ => none

def cE (C : CC) : Nat → PySem.Expr → Option E
  | 0, _ => none
  | n + 1, e => match e with
    | .Constant k _ _ => (cConst k).map .c
    | .Name x _ => match C.slot x with
      | some i => some (.v i)
      | none => if C.glob x then (match C.G.lookup x with
        | some (.con d) => some (.c d)
        | _ => none) else none
    | .BinOp a o b _ => match opIs o, cE C n a, cE C n b with
      | some o, some a, some b => some (.bin o a b)
      | _, _, _ => none
    | .Compare a [o] [b] _ => if notSet b then (match cE C n a, cE C n b with
      | some a, some b => some (.cmp (cmpIs o) a b)
      | _, _ => none) else none
    | .Compare a [o, o'] [b, c] _ => if notSet b && notSet c then (match cE C n a, cE C n b, cE C n c with
      | some a, some b, some c => some (.cmp2 (cmpIs o) (cmpIs o') a b c)
      | _, _, _ => none) else none
    | .BoolOp .And vs _ => cBool .and (cE C n) vs
    | .BoolOp .Or vs _ => cBool .or (cE C n) vs
    | .UnaryOp .Not a _ => (cE C n a).map .not
    | .UnaryOp .USub (.Constant (.int i) _ _) _ => some (.c (.int (-i)))
    | .IfExp t a b _ => match cE C n t, cE C n a, cE C n b with
      | some t, some a, some b => some (.ite t a b)
      | _, _, _ => none
    | .Subscript a (.Slice lo hi none _) _ => match cE C n a, cO (cE C n) lo, cO (cE C n) hi with
      | some a, some l, some h => some (.sl a l h)
      | _, _, _ => none
    | .Subscript a i _ => if notSlice i then (match cE C n a, cE C n i with
      | some a, some i => some (.ix a i)
      | _, _ => none) else none
    | .Tuple es _ _ => (cEs (cE C n) es).map .tup
    | .List es _ => (cEs (cE C n) es).map .lst
    | .Call (.Name x _) (a :: as) [] _ => if C.blt x then (
        if x = "isinstance" then (match as with
          | [.Name t _] => if C.blt t then (match cE C n a, tyOf t with
            | some a, some t => some (.isi a t)
            | _, _ => none) else none
          | _ => none)
        else match bfOf x, cEs (cE C n) (a :: as) with
          | some f, some es => some (.bcall f es)
          | _, _ => none)
      else if C.glob x then (match C.G.lookup x with
        | some (.fn f) => (cEs (cE C n) (a :: as)).map (.call f)
        | _ => none)
      else none
    | .Call (.Name x _) [] [] _ => if C.glob x then (match C.G.lookup x with
        | some (.fn f) => some (.call f [])
        | _ => none)
      else none
    | .Call (.Attribute o m ap) (a :: as) [] cp => if noSuper o && (ap.endLine == cp.line) && decide (as.length < 20) then (match bmOf m, cE C n o, cEs (cE C n) (a :: as) with
      | some m, some o, some es => some (.bm m o es)
      | _, _, _ => none) else none
    | _ => none

def cNames (C : CC) : List PySem.Expr → Option (List Nat)
  | [] => some []
  | .Name x _ :: es => match C.own x, cNames C es with
    | some i, some is => some (i :: is)
    | _, _ => none
  | _ => none
def cT (C : CC) (n : Nat) : PySem.Expr → Option T
  | .Name x _ => (C.own x).map .name
  | .Tuple es _ _ => (cNames C es).map .tup
  | .Subscript o i _ => if notSlice i then (match cE C n o, cE C n i with
    | some o, some i => some (.sub o i)
    | _, _ => none) else none
  | _ => none
def cIt (C : CC) (n : Nat) (e : PySem.Expr) : Option It :=
  match e with
  | .Call (.Name x _) [a] [] _ => if x = "range" && C.blt x then (cE C n a).map .r1 else (cE C n e).map .e
  | .Call (.Name x _) [a, b] [] _ => if x = "range" && C.blt x then (match cE C n a, cE C n b with
    | some a, some b => some (.r2 a b)
    | _, _ => none) else (cE C n e).map .e
  | .Set .. => none
  | .List .. => none
  | e => (cE C n e).map .e
/-- a constant -/
def cD : PySem.Expr → Option D
  | .Constant k _ _ => cConst k
  | .Tuple es _ _ => if es.length ≤ 1000 then (cDs es).map .tup else none
  | _ => none
where cDs : List PySem.Expr → Option (List D)
  | [] => some []
  | .Constant k _ _ :: es => match cConst k, cDs es with
    | some d, some ds => some (d :: ds)
    | _, _ => none
  | _ => none
/-- the parts of the caught error: e.place, e.reason -/
def cFields (i : Nat) (C : CC) : List PySem.Expr → Option (List Nat)
  | [] => some []
  | .Attribute (.Name x _) f _ :: es => if C.slot x = some i then (match cFields i C es with
    | some is => if f = "place" then some (1 :: is) else if f = "reason" then some (0 :: is) else none
    | none => none) else none
  | _ => none
def cIsa (C : CC) (i : Nat) : PySem.Expr → Option Nat
  | .Call (.Name f _) [.Name x _, .Name t _] [] _ => if f = "isinstance" && C.blt f && decide (C.slot x = some i) && C.glob t then (match C.G.lookup t with
    | some (.cls c) => some c
    | _ => none) else none
  | _ => none
def cSuite (C : CC) (i : Nat) : List Stmt → Option Hd
  | [.If t [.Return (some (.Tuple es _ _)) _] [] _, .Return (some (.Constant .none _ _)) _] => if es.length ≤ 1000 then (match cIsa C i t, cFields i C es with
    | some c, some fs => some (.fields c fs)
    | _, _ => none) else none
  | [.Return (some e) _] => (cIsa C i e).map .isa
  | _ => none
/-- an except clause: the class, the name's slot, the suite -/
def cHd (C : CC) : ExceptHandler → Option (Nat × Hd)
  | .ExceptHandler (some (.Name x _)) none [.Return (some e) _] _ => if C.glob x then (match C.G.lookup x with
    | some (.cls c) => (cD e).map fun d => (c, .con d)
    | _ => none) else none
  | .ExceptHandler (some (.Name x _)) (some n) suite _ => if C.glob x then (match C.G.lookup x with
    | some (.cls c) => if C.names.lookup n = some .local then (match C.own n with
      | some i => (cSuite C i suite).map fun h => (c, h)
      | none => none) else none
    | _ => none) else none
  | _ => none

def cSs (f : Stmt → Option S) : List Stmt → Option (List S)
  | [] => some []
  | e :: es => match f e with
    | some a => match cSs f es with
      | some as => some (a :: as)
      | none => none
    | none => none
def isTup : PySem.Expr → Bool
  | .Tuple .. => true
  | .List .. => true
  | _ => false
def cS (C : CC) : Nat → Stmt → Option S
  | 0, _ => none
  | n + 1, st => match st with
    | .Assign [t] e _ => if !(isTup t && isTup e) then (match cT C 1000 t, cE C 1000 e with
      | some t, some e => some (.asg t e)
      | _, _ => none) else none
    | .AugAssign (.Name x _) o e _ => match C.own x, opIs o, cE C 1000 e with
      | some i, some o, some e => some (.aug i o e)
      | _, _, _ => none
    | .Expr e _ => (cE C 1000 e).map .expr
    | .Return (some e) _ => (cE C 1000 e).map .ret
    | .Return none _ => some .retN
    | .If c a b _ => match cE C 1000 c, cSs (cS C n) a, cSs (cS C n) b with
      | some c, some a, some b => some (.if_ c a b)
      | _, _, _ => none
    | .While c b [] _ => match cE C 1000 c, cSs (cS C n) b with
      | some c, some b => some (.while_ c b)
      | _, _ => none
    | .For t it b [] _ => match cT C 1000 t, cIt C 1000 it, cSs (cS C n) b with
      | some t, some it, some b => some (.for_ t it b)
      | _, _, _ => none
    | .Break _ => some .brk
    | .Continue _ => some .cnt
    | .Pass _ => some .pass
    | .Raise (some (.Call (.Name x _) (a :: as) [] _)) none _ => if C.glob x then (match C.G.lookup x with
      | some (.cls c) => if c = 0 then none else (cEs (cE C 1000) (a :: as)).map (.raise c)
      | _ => none) else none
    | .Try b [h] [] [] _ => match cSs (cS C n) b, cHd C h with
      | some b, some (c, h) => some (.try_ b c h)
      | _, _ => none
    | _ => none
end PI
/-! SND1: how the interpreter's values lie in the abstract heap of the hand layer. -/
namespace PI
open PySem PySem.Spec PyProof.Rows L2

abbrev Fg := PySem.W.Frag
/-- read, and not among the places B -/
def TupAt (K : Fg) (H : Hp) (B : Addr → Prop) (a : Addr) (xs : List V) : Prop :=
  (Rd H a (.tup xs) ∧ ¬ B a) ∨ ∃ (o : PySem.Obj) (its : Array Value) (n : Nat), K.lookup a = some o ∧ o.cls = .type "tuple" ∧ o.data = .seq its n ∧ its.size ≤ sizeLine ∧ Vals xs its.toList
def LstAt (K : Fg) (H : Hp) (B : Addr → Prop) (a : Addr) (xs : List V) : Prop :=
  ((∃ o, H a = some (.frz o (.lst xs))) ∧ ¬ B a) ∨ ∃ (o : PySem.Obj) (its : Array Value) (n : Nat), K.lookup a = some o ∧ o.cls = .type "list" ∧ o.dict = none ∧ o.data = .seq its n ∧ its.size ≤ sizeLine ∧ Vals xs its.toList
theorem TupAt.sq {K : Fg} {H : Hp} {B : Addr → Prop} {a : Addr} {xs : List V} (h : TupAt K H B a xs) : SqT K H a xs := h.imp And.left id
theorem LstAt.sq {K : Fg} {H : Hp} {B : Addr → Prop} {a : Addr} {xs : List V} (h : LstAt K H B a xs) : SqL K H a xs := h.imp (fun x => .inr x.1) id

mutual
inductive RD (K : Fg) (H : Hp) (B : Addr → Prop) : V → D → Prop where
  | non : RD K H B .non .non
  | bl (b : Bool) : RD K H B (.bl b) (.bl b)
  | int (i : Int) : RD K H B (.int i) (.int i)
  | str (x : Str) : PyData.strOk x = true → x.length ≤ sizeLine → RD K H B (.str x) (.str x.cps.toList)
  | tup {a : Addr} {xs : List V} {ds : List D} : TupAt K H B a xs → RDs K H B xs ds → RD K H B (.ref a) (.tup ds)
  | lst {a : Addr} {xs : List V} {ds : List D} : LstAt K H B a xs → RDs K H B xs ds → RD K H B (.ref a) (.lst ds)
inductive RDs (K : Fg) (H : Hp) (B : Addr → Prop) : List V → List D → Prop where
  | nil : RDs K H B [] []
  | cons {v : V} {vs : List V} {d : D} {ds : List D} : RD K H B v d → RDs K H B vs ds → RDs K H B (v :: vs) (d :: ds)
end

abbrev Mp := Nat → Addr
def Bof (m : Mp) (n : Nat) : Addr → Prop := fun a => ∃ l, l < n ∧ m l = a
/-- a value -/
def RV (K : Fg) (H : Hp) (m : Mp) (n : Nat) (v : V) : Val → Prop
  | .d x => RD K H (Bof m n) v x
  | .loc l => l < n ∧ v = .ref (m l)
abbrev RVs (K : Fg) (H : Hp) (m : Mp) (n : Nat) : List V → List Val → Prop := Paired fun v w => RV K H m n v w
def RO (K : Fg) (H : Hp) (m : Mp) (n : Nat) (a : Addr) : Obj → Prop
  | .lst xs => ∃ vs, H a = some (.lst vs) ∧ RDs K H (Bof m n) vs xs
  | .lstV xs => ∃ vs, H a = some (.lst vs) ∧ RVs K H m n vs xs
  | _ => False
structure RelS (K : Fg) (H : Hp) (m : Mp) (st : Store) : Prop where
  obj : ∀ l o, st[l]? = some o → RO K H m st.length (m l) o
  inj : ∀ l l', l < st.length → l' < st.length → m l = m l' → l = l'
structure Rel (K : Fg) (m : Mp) (env : Env) (st : Store) (σ : L2.St) (H : Hp) : Prop where
  s : RelS K H m st
  e : ∀ (i : Nat) (w : Val), env[i]? = some (some w) → ∃ v, σ[i]? = some (some v) ∧ RV K H m st.length v w
  len : env.length = σ.length
/-- what a step leaves -/
structure Aft (m : Mp) (n : Nat) (H : Hp) (m' : Mp) (n' : Nat) (H' : Hp) : Prop where
  len : n ≤ n'
  mp : ∀ l, l < n → m' l = m l
  fr : ∀ a o, H a = some o → (∀ l, l < n → m l ≠ a) → H' a = some o
  new : ∀ l, n ≤ l → l < n' → H (m' l) = none

theorem ro_some {K : Fg} {H : Hp} {m : Mp} {n : Nat} {a : Addr} : ∀ {o : Obj}, RO K H m n a o → ∃ u, H a = some u
  | .lst _, ⟨_, h, _⟩ => ⟨_, h⟩
  | .lstV _, ⟨_, h, _⟩ => ⟨_, h⟩
  | .dct _, h => h.elim
  | .dctV _, h => h.elim
  | .ins _ _, h => h.elim
  | .dead, h => h.elim
theorem RelS.has {K : Fg} {H : Hp} {m : Mp} {st : Store} (R : RelS K H m st) {l : Nat} (h : l < st.length) : ∃ u, H (m l) = some u :=
  ro_some (R.obj l st[l] (List.getElem?_eq_getElem h))
theorem RelS.fresh {K : Fg} {H : Hp} {m : Mp} {st : Store} (R : RelS K H m st) {p : Addr} (hp : H p = none) : ∀ l, l < st.length → m l ≠ p := fun l hl e => by
  obtain ⟨u, hu⟩ := R.has hl
  rw [e, hp] at hu; cases hu

theorem Aft.refl {m : Mp} {n : Nat} {H : Hp} : Aft m n H m n H := ⟨Nat.le_refl _, fun _ _ => rfl, fun _ _ h _ => h, fun l h1 h2 => absurd h1 (by omega)⟩
theorem Aft.trans {m m1 m2 : Mp} {n n1 n2 : Nat} {H H1 H2 : Hp} (a : Aft m n H m1 n1 H1) (b : Aft m1 n1 H1 m2 n2 H2)
    (hs : ∀ l, l < n → ∃ u, H1 (m l) = some u) : Aft m n H m2 n2 H2 where
  len := Nat.le_trans a.len b.len
  mp := fun l hl => (b.mp l (Nat.lt_of_lt_of_le hl a.len)).trans (a.mp l hl)
  fr := fun c o h hc => b.fr c o (a.fr c o h hc) fun l hl e => by
    by_cases h1 : l < n
    · rw [a.mp l h1] at e; exact hc l h1 e
    · have := a.new l (by omega) hl
      rw [e, h] at this; cases this
  new := fun l h1 h2 => by
    by_cases h3 : l < n1
    · rw [b.mp l h3]; exact a.new l h1 h3
    · have q := b.new l (by omega) h2
      cases e : H (m2 l) with
      | none => rfl
      | some o =>
        by_cases hc : ∀ k, k < n → m k ≠ m2 l
        · rw [a.fr _ o e hc] at q; cases q
        · have : ∃ k, k < n ∧ m k = m2 l := Classical.byContradiction fun z => hc fun k hk hz => z ⟨k, hk, hz⟩
          obtain ⟨k, hk, hz⟩ := this
          obtain ⟨u, hu⟩ := hs k hk
          rw [hz, q] at hu; cases hu

section
variable {K : Fg} {m m' : Mp} {n n' : Nat} {H H' : Hp}
theorem Aft.rd (a : Aft m n H m' n' H') {b : Addr} {u : HO} (h : Rd H b u) (hb : ¬ Bof m n b) : Rd H' b u ∧ ¬ Bof m' n' b := by
  have hl : ∀ l, l < n → m l ≠ b := fun l hl e => hb ⟨l, hl, e⟩
  have hs : ∃ o, H b = some o := by
    rcases h with h | ⟨o, h⟩
    · exact ⟨_, h⟩
    · exact ⟨_, h⟩
  refine ⟨?_, ?_⟩
  · rcases h with h | ⟨o, h⟩
    · exact .inl (a.fr _ _ h hl)
    · exact .inr ⟨o, a.fr _ _ h hl⟩
  · rintro ⟨l, h1, e⟩
    by_cases h2 : l < n
    · rw [a.mp l h2] at e; exact hl l h2 e
    · have := a.new l (by omega) h1
      obtain ⟨o, ho⟩ := hs
      rw [e, ho] at this; cases this
theorem Aft.frz (a : Aft m n H m' n' H') {b : Addr} {xs : List V} (h : ∃ o, H b = some (.frz o (.lst xs))) (hb : ¬ Bof m n b) : (∃ o, H' b = some (.frz o (.lst xs))) ∧ ¬ Bof m' n' b := by
  obtain ⟨o, h⟩ := h
  refine ⟨⟨o, a.fr _ _ h fun l hl e => hb ⟨l, hl, e⟩⟩, ?_⟩
  exact (a.rd (u := .lst xs) (.inr ⟨o, h⟩) hb).2
mutual
theorem RD.aft (a : Aft m n H m' n' H') : ∀ {v : V} {d : D}, RD K H (Bof m n) v d → RD K H' (Bof m' n') v d
  | _, _, .non => .non
  | _, _, .bl b => .bl b
  | _, _, .int i => .int i
  | _, _, .str x h z => .str x h z
  | _, _, .tup h r => .tup (h.imp (fun ⟨x, y⟩ => a.rd x y) id) (RDs.aft a r)
  | _, _, .lst h r => .lst (h.imp (fun ⟨x, y⟩ => a.frz x y) id) (RDs.aft a r)
theorem RDs.aft (a : Aft m n H m' n' H') : ∀ {vs : List V} {ds : List D}, RDs K H (Bof m n) vs ds → RDs K H' (Bof m' n') vs ds
  | _, _, .nil => .nil
  | _, _, .cons h t => .cons (RD.aft a h) (RDs.aft a t)
end
theorem RV.aft (a : Aft m n H m' n' H') {v : V} : ∀ {w : Val}, RV K H m n v w → RV K H' m' n' v w
  | .d _, h => RD.aft a h
  | .loc l, ⟨h1, h2⟩ => ⟨Nat.lt_of_lt_of_le h1 a.len, by rw [h2, a.mp l h1]⟩
theorem RVs.aft (a : Aft m n H m' n' H') : ∀ {vs : List V} {ws : List Val}, RVs K H m n vs ws → RVs K H' m' n' vs ws
  | _, _, .nil => .nil
  | _, _, .cons h t => .cons (RV.aft a h) (RVs.aft a t)
theorem Rel.aft {env : Env} {st st' : Store} {σ : L2.St} (r : Rel K m env st σ H) (a : Aft m st.length H m' st'.length H') (s : RelS K H' m' st') : Rel K m' env st' σ H' :=
  ⟨s, fun i w h => let ⟨v, h1, h2⟩ := r.e i w h; ⟨v, h1, h2.aft a⟩, r.len⟩
theorem RelS.aft_has {st st' : Store} (a : Aft m st.length H m' st'.length H') (s : RelS K H' m' st') : ∀ l, l < st.length → ∃ u, H' (m l) = some u := fun l hl => by
  rw [← a.mp l hl]
  exact s.has (Nat.lt_of_lt_of_le hl a.len)
end

/-! ### lists of data and values -/
section
variable {K : Fg} {H : Hp} {B : Addr → Prop} {m : Mp} {n : Nat}
theorem RDs.length : ∀ {vs : List V} {ds : List D}, RDs K H B vs ds → vs.length = ds.length
  | _, _, .nil => rfl
  | _, _, .cons _ t => by rw [List.length_cons, List.length_cons, RDs.length t]
theorem RDs.get : ∀ {vs : List V} {ds : List D} {i : Nat} {d : D}, RDs K H B vs ds → ds[i]? = some d → ∃ v, vs[i]? = some v ∧ RD K H B v d
  | _, _, _, _, .nil, e => by simp at e
  | _, _, 0, _, .cons h _, e => by simp at e; subst e; exact ⟨_, rfl, h⟩
  | _, _, i + 1, d, .cons _ t, e => by
    obtain ⟨v, h1, h2⟩ := RDs.get (i := i) (d := d) t (by simpa using e)
    exact ⟨v, by simpa using h1, h2⟩
theorem RDs.append : ∀ {vs vs' : List V} {ds ds' : List D}, RDs K H B vs ds → RDs K H B vs' ds' → RDs K H B (vs ++ vs') (ds ++ ds')
  | _, _, _, _, .nil, s => s
  | _, _, _, _, .cons h t, s => .cons h (RDs.append t s)
theorem RDs.take : ∀ {vs : List V} {ds : List D} (k : Nat), RDs K H B vs ds → RDs K H B (vs.take k) (ds.take k)
  | _, _, 0, _ => .nil
  | _, _, _ + 1, .nil => .nil
  | _, _, k + 1, .cons h t => .cons h (RDs.take k t)
theorem RDs.drop : ∀ {vs : List V} {ds : List D} (k : Nat), RDs K H B vs ds → RDs K H B (vs.drop k) (ds.drop k)
  | _, _, 0, r => r
  | _, _, _ + 1, .nil => .nil
  | _, _, k + 1, .cons _ t => RDs.drop k t
theorem RDs.set {x : V} {d : D} (r : RD K H B x d) : ∀ {vs : List V} {ds : List D} (i : Nat), RDs K H B vs ds → RDs K H B (vs.set i x) (ds.set i d)
  | _, _, _, .nil => .nil
  | _, _, 0, .cons _ t => .cons r t
  | _, _, i + 1, .cons q t => .cons q (RDs.set r i t)
theorem RDs.vals : ∀ {vs : List V} {ds : List D}, RDs K H (Bof m n) vs ds → RVs K H m n vs (ds.map .d)
  | _, _, .nil => .nil
  | _, _, .cons h t => .cons h (RDs.vals t)
theorem RVs.datas : ∀ {vs : List V} {ws : List Val} {ds : List D}, RVs K H m n vs ws → ws.mapM Val.data? = some ds → RDs K H (Bof m n) vs ds
  | _, [], ds, .nil, e => by
    have : ds = [] := by simpa using e.symm
    subst this; exact .nil
  | _, w :: ws, ds, .cons h t, e => by
    rw [List.mapM_cons] at e
    cases w with
    | loc l => simp [Val.data?] at e
    | d x =>
      cases q : ws.mapM Val.data? with
      | none => rw [q] at e; simp [Val.data?] at e
      | some es =>
        rw [q] at e
        have : ds = x :: es := by simpa [Val.data?] using e.symm
        subst this
        exact .cons h (RVs.datas t q)
theorem RVs.length {vs : List V} {ws : List Val} (r : RVs K H m n vs ws) : vs.length = ws.length := Paired.length r
theorem RVs.get : ∀ {vs : List V} {ws : List Val} {i : Nat} {w : Val}, RVs K H m n vs ws → ws[i]? = some w → ∃ v, vs[i]? = some v ∧ RV K H m n v w
  | _, _, _, _, .nil, e => by simp at e
  | _, _, 0, _, .cons h _, e => by simp at e; subst e; exact ⟨_, rfl, h⟩
  | _, _, i + 1, w, .cons _ t, e => by
    obtain ⟨v, h1, h2⟩ := RVs.get (i := i) (w := w) t (by simpa using e)
    exact ⟨v, by simpa using h1, h2⟩
theorem RVs.append : ∀ {vs vs' : List V} {ws ws' : List Val}, RVs K H m n vs ws → RVs K H m n vs' ws' → RVs K H m n (vs ++ vs') (ws ++ ws')
  | _, _, _, _, .nil, s => s
  | _, _, _, _, .cons h t, s => .cons h (RVs.append t s)
theorem RVs.take : ∀ {vs : List V} {ws : List Val} (k : Nat), RVs K H m n vs ws → RVs K H m n (vs.take k) (ws.take k)
  | _, _, 0, _ => .nil
  | _, _, _ + 1, .nil => .nil
  | _, _, k + 1, .cons h t => .cons h (RVs.take k t)
theorem RVs.drop : ∀ {vs : List V} {ws : List Val} (k : Nat), RVs K H m n vs ws → RVs K H m n (vs.drop k) (ws.drop k)
  | _, _, 0, r => r
  | _, _, _ + 1, .nil => .nil
  | _, _, k + 1, .cons _ t => RVs.drop k t
theorem RVs.set {x : V} {w : Val} (r : RV K H m n x w) : ∀ {vs : List V} {ws : List Val} (i : Nat), RVs K H m n vs ws → RVs K H m n (vs.set i x) (ws.set i w)
  | _, _, _, .nil => .nil
  | _, _, 0, .cons _ t => .cons r t
  | _, _, i + 1, .cons q t => .cons q (RVs.set r i t)
theorem ro_items {a : Addr} {o : Obj} {xs : List Val} (r : RO K H m n a o) (h : o.items? = some xs) : ∃ vs, H a = some (.lst vs) ∧ RVs K H m n vs xs := by
  cases o with
  | lst ds =>
    obtain ⟨vs, h1, h2⟩ := r
    cases h
    exact ⟨vs, h1, h2.vals⟩
  | lstV ws =>
    obtain ⟨vs, h1, h2⟩ := r
    cases h
    exact ⟨vs, h1, h2⟩
  | dct _ => cases h
  | dctV _ => cases h
  | ins _ _ => cases h
  | dead => cases h
theorem mkLst_ro {a : Addr} {xs : List Val} {vs : List V} (h : H a = some (.lst vs)) (r : RVs K H m n vs xs) : RO K H m n a (mkLst xs) := by
  unfold mkLst
  cases e : xs.mapM Val.data? with
  | none => exact ⟨vs, h, r⟩
  | some ds => exact ⟨vs, h, r.datas e⟩
/-- a list's items, at a value -/
theorem list_at {st : Store} (R : RelS K H m st) {v : V} {w : Val} {xs : List Val} (r : RV K H m st.length v w) (h : listAt st w = some xs) : ∃ a vs, v = .ref a ∧ SqL K H a vs ∧ RVs K H m st.length vs xs := by
  cases w with
  | d x =>
    cases r with
    | lst hl hr =>
      cases h
      exact ⟨_, _, rfl, hl.sq, hr.vals⟩
    | non => cases h
    | bl _ => cases h
    | int _ => cases h
    | str _ _ _ => cases h
    | tup _ _ => cases h
  | loc l =>
    obtain ⟨h1, h2⟩ := r
    simp only [listAt] at h
    cases e : st[l]? with
    | none => rw [e] at h; cases h
    | some o =>
      rw [e] at h
      obtain ⟨vs, h3, h4⟩ := ro_items (R.obj l o e) h
      exact ⟨m l, vs, h2, SqL.of h3, h4⟩
end

/-! ### heaps that change -/
section
variable {K : Fg} {H : Hp} {m : Mp} {st : Store}
theorem aft_new {p : Addr} {u : HO} (R : RelS K H m st) (hp : H p = none) : Aft m st.length H m st.length (upd H p u) :=
  ⟨Nat.le_refl _, fun _ _ => rfl, fun a o h hl => by
    rw [upd_ne (ne_of_none h hp)]; exact h, fun l h1 h2 => absurd h1 (by omega)⟩
theorem ro_aft {m' : Mp} {n n' : Nat} {H' : Hp} {a : Addr} (A : Aft m n H m' n' H') (h : ∀ u, H a = some u → H' a = some u) : ∀ {o : Obj}, RO K H m n a o → RO K H' m' n' a o
  | .lst _, ⟨vs, h1, h2⟩ => ⟨vs, h _ h1, h2.aft A⟩
  | .lstV _, ⟨vs, h1, h2⟩ => ⟨vs, h _ h1, RVs.aft A h2⟩
  | .dct _, x => x.elim
  | .dctV _, x => x.elim
  | .ins _ _, x => x.elim
  | .dead, x => x.elim
/-- a new thing that is no object of the store -/
theorem RelS.data {p : Addr} {u : HO} (R : RelS K H m st) (hp : H p = none) : RelS K (upd H p u) m st :=
  ⟨fun l o e => ro_aft (aft_new R hp) (fun v hv => by rw [upd_ne (ne_of_none hv hp)]; exact hv) (R.obj l o e), R.inj⟩
/-- a new object of the store -/
def mpAdd (m : Mp) (n : Nat) (p : Addr) : Mp := fun l => if l = n then p else m l
theorem mpAdd_lt {m : Mp} {n : Nat} {p : Addr} {l : Nat} (h : l < n) : mpAdd m n p l = m l := if_neg (Nat.ne_of_lt h)
theorem mpAdd_eq {m : Mp} {n : Nat} {p : Addr} : mpAdd m n p n = p := if_pos rfl
theorem aft_alloc {p : Addr} {u : HO} {o : Obj} (R : RelS K H m st) (hp : H p = none) : Aft m st.length H (mpAdd m st.length p) (st ++ [o]).length (upd H p u) := by
  refine ⟨by simp, fun l hl => mpAdd_lt hl, fun a o h hl => by rw [upd_ne (ne_of_none h hp)]; exact h, fun l h1 h2 => ?_⟩
  have : l = st.length := by simp at h2; omega
  subst this
  rw [mpAdd_eq]; exact hp
theorem RelS.alloc {p : Addr} {u : HO} {o : Obj} (R : RelS K H m st) (hp : H p = none) (h : RO K (upd H p u) (mpAdd m st.length p) (st ++ [o]).length p o) : RelS K (upd H p u) (mpAdd m st.length p) (st ++ [o]) := by
  refine ⟨fun l o' e => ?_, fun l l' h1 h2 e => ?_⟩
  · by_cases hl : l < st.length
    · rw [List.getElem?_append_left hl] at e
      rw [mpAdd_lt hl]
      exact ro_aft (aft_alloc R hp) (fun v hv => by rw [upd_ne (ne_of_none hv hp)]; exact hv) (R.obj l o' e)
    · have hl2 : l < (st ++ [o]).length := (List.getElem?_eq_some_iff.mp e).1
      have : l = st.length := by simp at hl2; omega
      subst this
      have : o' = o := by simpa using e.symm
      subst this
      rw [mpAdd_eq]; exact h
  · by_cases a : l < st.length
    · by_cases b : l' < st.length
      · rw [mpAdd_lt a, mpAdd_lt b] at e; exact R.inj l l' a b e
      · have : l' = st.length := by simp at h2; omega
        subst this
        rw [mpAdd_lt a, mpAdd_eq] at e
        exact absurd e (R.fresh hp l a)
    · have hl : l = st.length := by simp at h1; omega
      subst hl
      by_cases b : l' < st.length
      · rw [mpAdd_eq, mpAdd_lt b] at e
        exact absurd e.symm (R.fresh hp l' b)
      · simp at h2; omega
/-- an object of the store is written -/
theorem aft_set {l : Nat} {u : HO} {o : Obj} (R : RelS K H m st) (hl : l < st.length) : Aft m st.length H m (st.set l o).length (upd H (m l) u) :=
  ⟨by simp, fun _ _ => rfl, fun a o h hn => by rw [upd_ne (fun z => hn l hl z.symm)]; exact h, fun l h1 h2 => absurd h1 (by simp at h2; omega)⟩
theorem RelS.set {l : Nat} {u : HO} {o : Obj} (R : RelS K H m st) (hl : l < st.length) (h : RO K (upd H (m l) u) m (st.set l o).length (m l) o) : RelS K (upd H (m l) u) m (st.set l o) := by
  refine ⟨fun k o' e => ?_, fun a b h1 h2 e => R.inj a b (by simpa using h1) (by simpa using h2) e⟩
  by_cases hk : k = l
  · subst hk
    rw [List.getElem?_set_self hl] at e
    cases e
    exact h
  · rw [List.getElem?_set_ne (Ne.symm hk)] at e
    have hk2 : k < st.length := (List.getElem?_eq_some_iff.mp e).1
    exact ro_aft (aft_set R hl) (fun v hv => by
      rw [upd_ne (fun z => hk (R.inj k l hk2 hl z))]; exact hv) (R.obj k o' e)
end
end PI
/-! SND2: the operators of the interpreter, sound by values. -/
namespace PI
open PySem PySem.Spec PyProof.Rows L2

/-- what is wanted of an exception (class, dict, heap) -/
abbrev XW := Value → Option Addr → Hp → Prop
/-- how an exception's class lies: its address, its fields (the last first), whether it is raised -/
abbrev EC := Nat → Addr × List Str × Bool
def ExnR (K : Fg) (ec : EC) (H : Hp) (m : Mp) (n : Nat) (cls : Value) (d : Option Addr) (x : Exn) : Prop :=
  (ec x.c).2.2 = true ∧ cls = .ref (ec x.c).1 ∧ ∃ (dd : Addr) (fs : List (Str × V)), d = some dd ∧ H dd = some (.xd fs) ∧ fs.map (·.1) = (ec x.c).2.1 ∧ RDs K H (Bof m n) (fs.map (·.2)) x.args

section
variable {K : Fg} {ec : EC} {W : XW}
abbrev Rl (α β : Type) := Hp → Mp → Nat → β → α → Prop
/-- what is wanted behind a result -/
def Post {α β : Type} (K : Fg) (ec : EC) (W : XW) (m : Mp) (n : Nat) (H : Hp) (r : R α) (rel : Rl α β) (Q : β → Hp → Prop) : Prop := match r with
  | .ok v st => ∀ m' H' x, Aft m n H m' st.length H' → RelS K H' m' st → rel H' m' st.length x v → Q x H'
  | .exc e st => ∀ m' H' cls d, Aft m n H m' st.length H' → RelS K H' m' st → ExnR K ec H' m' st.length cls d e → W cls d H'
  | .bad => False
theorem Post.imp {α β : Type} {m : Mp} {n : Nat} {H : Hp} {r : R α} {rel : Rl α β} {Q Q' : β → Hp → Prop} (h : Post K ec W m n H r rel Q) (q : ∀ x H', Q x H' → Q' x H') : Post K ec W m n H r rel Q' := by
  cases r with
  | ok v st => exact fun m' H' x a s x1 => q _ _ (h m' H' x a s x1)
  | exc e st => exact h
  | bad => exact h
theorem Post.shift {α β : Type} {m m1 : Mp} {n : Nat} {st1 : Store} {H H1 : Hp} {r : R α} {rel : Rl α β} {Q : β → Hp → Prop} (a : Aft m n H m1 st1.length H1)
    (hs : ∀ l, l < n → ∃ u, H1 (m l) = some u) (h : Post K ec W m n H r rel Q) : Post K ec W m1 st1.length H1 r rel Q := by
  cases r with
  | ok v st => exact fun m' H' x b s => h m' H' x (a.trans b hs) s
  | exc e st => exact fun m' H' c d b s => h m' H' c d (a.trans b hs) s
  | bad => exact h
/-- after the first part, what is wanted of the second -/
def Mid {α β γ δ : Type} (K : Fg) (ec : EC) (W : XW) (m : Mp) (n : Nat) (H : Hp) (g : α → Store → R γ) (rel1 : Rl α β) (rel : Rl γ δ) (Q : δ → Hp → Prop) (x : β) (H1 : Hp) : Prop :=
  ∃ m1 st1 v, Aft m n H m1 st1.length H1 ∧ RelS K H1 m1 st1 ∧ rel1 H1 m1 st1.length x v ∧ Post K ec W m1 st1.length H1 (g v st1) rel Q
theorem Post.bind {α β γ δ : Type} {m : Mp} {st : Store} {H : Hp} {r : R α} {g : α → Store → R γ} {rel1 : Rl α β} {rel : Rl γ δ} {Q : δ → Hp → Prop} (h : Post K ec W m st.length H (r.bind g) rel Q) :
    Post K ec W m st.length H r rel1 (Mid K ec W m st.length H g rel1 rel Q) := by
  cases r with
  | ok v st1 =>
    intro m1 H1 x a s rx
    exact ⟨m1, st1, v, a, s, rx, h.shift a (RelS.aft_has a s)⟩
  | exc e st1 => exact h
  | bad => exact h

/-! ### readings -/
def rd (K : Fg) (ec : EC) (W : XW) (f : Env → Store → R Val) : TE := fun σ H Q => ∃ env st m, Rel K m env st σ H ∧ Post K ec W m st.length H (f env st) (RV K) Q
def eqRel {α : Type} : Rl α α := fun _ _ _ x y => x = y
def rdT (K : Fg) (ec : EC) (W : XW) (f : Env → Store → R Bool) : TT := fun σ H Q => ∃ env st m, Rel K m env st σ H ∧ Post K ec W m st.length H (f env st) eqRel Q
def rdA (K : Fg) (ec : EC) (W : XW) (f : Env → Store → R (List Val)) : TA := fun σ H Q => ∃ env st m, Rel K m env st σ H ∧ Post K ec W m st.length H (f env st) (RVs K) Q

/-! ### results that are at hand -/
section
variable {m : Mp} {st : Store} {H : Hp} {Q : V → Hp → Prop}
theorem post_data {x : D} {v : V} (R : RelS K H m st) (h : Post K ec W m st.length H (.ok (.d x) st) (RV K) Q) (r : RD K H (Bof m st.length) v x) : Q v H := h m H v Aft.refl R r
theorem post_val {w : Val} {v : V} (R : RelS K H m st) (h : Post K ec W m st.length H (.ok w st) (RV K) Q) (r : RV K H m st.length v w) : Q v H := h m H v Aft.refl R r
theorem tup_new {p : Addr} {xs : List V} {ds : List D} (R : RelS K H m st) (hp : H p = none) (r : RDs K H (Bof m st.length) xs ds) : RD K (upd H p (.tup xs)) (Bof m st.length) (.ref p) (.tup ds) :=
  .tup (.inl ⟨.inl upd_same, fun ⟨l, hl, e⟩ => R.fresh hp l hl e⟩) (r.aft (aft_new R hp))
theorem post_tup {xs : List V} {ds : List D} {p : Addr} (R : RelS K H m st) (h : Post K ec W m st.length H (.ok (.d (.tup ds)) st) (RV K) Q) (r : RDs K H (Bof m st.length) xs ds) (hp : H p = none) : Q (.ref p) (upd H p (.tup xs)) :=
  h m _ _ (aft_new R hp) (R.data hp) (tup_new R hp r)
theorem post_alloc {vs : List V} {xs : List Val} {p : Addr} (R : RelS K H m st) (h : Post K ec W m st.length H (alloc (mkLst xs) st) (RV K) Q) (r : RVs K H m st.length vs xs) (hp : H p = none) : Q (.ref p) (upd H p (.lst vs)) := by
  have A := aft_alloc (o := mkLst xs) (u := .lst vs) R hp
  exact h (mpAdd m st.length p) _ _ A (R.alloc hp (mkLst_ro upd_same (RVs.aft A r))) ⟨by simp, by rw [mpAdd_eq]⟩
theorem post_allocD {vs : List V} {xs : List D} {p : Addr} (R : RelS K H m st) (h : Post K ec W m st.length H (alloc (.lst xs) st) (RV K) Q) (r : RDs K H (Bof m st.length) vs xs) (hp : H p = none) : Q (.ref p) (upd H p (.lst vs)) := by
  have A := aft_alloc (o := .lst xs) (u := .lst vs) R hp
  exact h (mpAdd m st.length p) _ _ A (R.alloc hp ⟨vs, upd_same, r.aft A⟩) ⟨by simp, by rw [mpAdd_eq]⟩
theorem post_set {l : Nat} {o : Obj} {u : HO} (R : RelS K H m st) (h : Post K ec W m st.length H (.ok (.d .non) (st.set l o)) (RV K) Q) (hl : l < st.length) (ro : RO K (upd H (m l) u) m (st.set l o).length (m l) o) : Q .non (upd H (m l) u) :=
  h m _ _ (aft_set R hl) (R.set hl ro) .non
end

/-! ### texts -/
theorem rd_int {H : Hp} {B : Addr → Prop} {v : V} {i : Int} (h : RD K H B v (.int i)) : v = .int i := by cases h; rfl
theorem rd_bl {H : Hp} {B : Addr → Prop} {v : V} {b : Bool} (h : RD K H B v (.bl b)) : v = .bl b := by cases h; rfl
theorem rd_non {H : Hp} {B : Addr → Prop} {v : V} (h : RD K H B v .non) : v = .non := by cases h; rfl
theorem rd_str {H : Hp} {B : Addr → Prop} {v : V} {s : List Nat} (h : RD K H B v (.str s)) : ∃ x : Str, v = .str x ∧ x.cps.toList = s ∧ PyData.strOk x = true ∧ x.length ≤ sizeLine := by
  cases h with
  | str x hx hz => exact ⟨x, rfl, rfl, hx, hz⟩
theorem rd_tup {H : Hp} {B : Addr → Prop} {v : V} {ds : List D} (h : RD K H B v (.tup ds)) : ∃ a xs, v = .ref a ∧ TupAt K H B a xs ∧ RDs K H B xs ds := by
  cases h with
  | tup h r => exact ⟨_, _, rfl, h, r⟩
theorem rd_lst {H : Hp} {B : Addr → Prop} {v : V} {ds : List D} (h : RD K H B v (.lst ds)) : ∃ a xs, v = .ref a ∧ LstAt K H B a xs ∧ RDs K H B xs ds := by
  cases h with
  | lst h r => exact ⟨_, _, rfl, h, r⟩
theorem strOk_append {x y : Str} (hx : PyData.strOk x = true) (hy : PyData.strOk y = true) : PyData.strOk (x ++ y) = true := by
  show (x.cps ++ y.cps).all _ = true
  unfold PyData.strOk at hx hy
  rw [← Array.all_toList] at hx hy ⊢
  simp only [Array.toList_append, List.all_append, hx, hy, Bool.and_self]
theorem str_append {x y : Str} : (x ++ y).cps.toList = x.cps.toList ++ y.cps.toList := by
  show (x.cps ++ y.cps).toList = _
  simp
theorem str_len {x : Str} : x.length = x.cps.toList.length := by simp [Str.length]
theorem strOk_all {x : Str} : PyData.strOk x = x.cps.toList.all (· < 0x110000) := by
  unfold PyData.strOk
  rw [← Array.all_toList]
theorem str_eq_iff {x y : Str} : x = y ↔ x.cps.toList = y.cps.toList := by
  constructor
  · rintro rfl; rfl
  · intro h
    obtain ⟨a⟩ := x
    obtain ⟨b⟩ := y
    congr 1
    exact Array.toList_inj.mp h
theorem big_eq : big = sizeLine := rfl

/-! ### the four figures -/
section
variable {X : Cx}
def rBin (K : Fg) (ec : EC) (W : XW) (o : Op2) : R2 := fun x y H Q => ∃ m st a b, RelS K H m st ∧ RV K H m st.length x a ∧ RV K H m st.length y b ∧ Post K ec W m st.length H (bin o a b st) (RV K) Q
def opOf : Op2 → Operator
  | .add => .Add | .sub => .Sub | .mul => .Mult | .fdiv => .FloorDiv | .mod => .Mod | .pow => .Pow
theorem vals_cons {x : V} {u : Value} {xs : List V} {us : List Value} (h : Vals (x :: xs) us) : ∃ u us', us = u :: us' ∧ RelV x u ∧ Vals xs us' := by
  cases h with
  | cons a b => exact ⟨_, _, rfl, a, b⟩
theorem op_bin (o : Op2) : OpR X (binaryOp (opOf o)) (rBin X.K ec W o) := by
  intro pins s σ H x y v u Q I rx ry h
  obtain ⟨m, st, a, b, R, ra, rb, p⟩ := h
  cases o with
  | add =>
    cases a with
    | loc l =>
      cases b with
      | d y' => exact p.elim
      | loc k =>
        obtain ⟨h1, rfl⟩ := ra
        obtain ⟨h2, rfl⟩ := rb
        simp only [bin] at p
        cases e1 : (st[l]?).bind Obj.items? with
        | none => rw [e1] at p; exact p.elim
        | some xs =>
          cases e2 : (st[k]?).bind Obj.items? with
          | none => rw [e1, e2] at p; exact p.elim
          | some ys =>
            rw [e1, e2] at p
            obtain ⟨o1, q1, q2⟩ := Option.bind_eq_some_iff.mp e1
            obtain ⟨o2, q3, q4⟩ := Option.bind_eq_some_iff.mp e2
            obtain ⟨vs, w1, w2⟩ := ro_items (R.obj l o1 q1) q2
            obtain ⟨ws, w3, w4⟩ := ro_items (R.obj k o2 q3) q4
            simp only at p
            by_cases hz : xs.length + ys.length ≤ big
            · rw [if_pos hz] at p
              exact op_cat pins s σ H _ _ v u Q I rx ry ⟨m l, m k, vs, ws, rfl, rfl, w1, w3, by rw [RVs.length w2, RVs.length w4]; exact hz, fun q hq => post_alloc R p (RVs.append w2 w4) hq⟩
            · rw [if_neg hz] at p; exact p.elim
    | d x' =>
      cases b with
      | loc k => cases x' <;> exact p.elim
      | d y' =>
        cases x' with
        | int i =>
          cases y' with
          | int j =>
            obtain rfl := rd_int ra
            obtain rfl := rd_int rb
            exact op_add pins s σ H _ _ v u Q I rx ry ⟨i, j, rfl, rfl, post_data R p (.int _)⟩
          | _ => exact p.elim
        | str i =>
          cases y' with
          | str j =>
            obtain ⟨x1, rfl, e1, k1, z1⟩ := rd_str ra
            obtain ⟨x2, rfl, e2, k2, z2⟩ := rd_str rb
            simp only [bin] at p
            by_cases hz : i.length + j.length ≤ big
            · rw [if_pos hz] at p
              refine op_add_str pins s σ H _ _ v u Q I rx ry ⟨x1, x2, rfl, rfl, by rw [str_len, str_len, e1, e2]; exact hz, post_data R p ?_⟩
              rw [← e1, ← e2, ← str_append]
              exact .str _ (strOk_append k1 k2) (by rw [str_len, str_append, List.length_append, e1, e2]; exact hz)
            · rw [if_neg hz] at p; exact p.elim
          | _ => exact p.elim
        | tup i =>
          cases y' with
          | tup j =>
            obtain ⟨a1, xs, rfl, t1, r1⟩ := rd_tup ra
            obtain ⟨a2, ys, rfl, t2, r2⟩ := rd_tup rb
            simp only [bin] at p
            by_cases hz : i.length + j.length ≤ big
            · rw [if_pos hz] at p
              refine op_catA pins s σ H _ _ v u Q I rx ry ⟨a1, a2, xs, ys, rfl, rfl, t1.sq, t2.sq, by rw [r1.length, r2.length]; exact hz, fun e => post_data R p ?_, fun _ e => post_data R p ?_, fun _ _ q hq => post_tup R p (r1.append r2) hq⟩
              · subst e
                cases r1
                exact .tup t2 r2
              · subst e
                cases r2
                rw [List.append_nil]
                exact .tup t1 r1
            · rw [if_neg hz] at p; exact p.elim
          | _ => exact p.elim
        | _ => exact p.elim
  | sub =>
    cases a with
    | loc l => cases b <;> exact p.elim
    | d x' =>
      cases b with
      | loc k => cases x' <;> exact p.elim
      | d y' =>
        cases x' with
        | int i =>
          cases y' with
          | int j =>
            obtain rfl := rd_int ra
            obtain rfl := rd_int rb
            exact op_sub pins s σ H _ _ v u Q I rx ry ⟨i, j, rfl, rfl, post_data R p (.int _)⟩
          | _ => exact p.elim
        | _ => exact p.elim
  | mul =>
    cases a with
    | loc l => cases b <;> exact p.elim
    | d x' =>
      cases b with
      | loc k => cases x' <;> exact p.elim
      | d y' =>
        cases x' with
        | int i =>
          cases y' with
          | int j =>
            obtain rfl := rd_int ra
            obtain rfl := rd_int rb
            simp only [bin] at p
            by_cases hz : mulOk i j = true
            · rw [if_pos hz] at p
              refine op_mul pins s σ H _ _ v u Q I rx ry ⟨i, j, rfl, rfl, ?_, post_data R p (.int _)⟩
              simpa [mulOk, CMul] using hz
            · rw [if_neg hz] at p; exact p.elim
          | _ => exact p.elim
        | _ => exact p.elim
  | fdiv =>
    cases a with
    | loc l => cases b <;> exact p.elim
    | d x' =>
      cases b with
      | loc k => cases x' <;> exact p.elim
      | d y' =>
        cases x' with
        | int i =>
          cases y' with
          | int j =>
            obtain rfl := rd_int ra
            obtain rfl := rd_int rb
            simp only [bin] at p
            by_cases hz : 0 < j ∧ j < 1073741824
            · rw [if_pos hz] at p
              exact op_fdiv pins s σ H _ _ v u Q I rx ry ⟨i, j, rfl, rfl, hz, post_data R p (.int _)⟩
            · rw [if_neg hz] at p; exact p.elim
          | _ => exact p.elim
        | _ => exact p.elim
  | mod =>
    cases a with
    | loc l => cases b <;> exact p.elim
    | d x' =>
      cases b with
      | loc k => cases x' <;> exact p.elim
      | d y' =>
        cases x' with
        | int i =>
          cases y' with
          | int j =>
            obtain rfl := rd_int ra
            obtain rfl := rd_int rb
            simp only [bin] at p
            by_cases hz : 0 < j
            · rw [if_pos hz] at p
              exact op_mod pins s σ H _ _ v u Q I rx ry ⟨i, j, rfl, rfl, hz, post_data R p (.int _)⟩
            · rw [if_neg hz] at p; exact p.elim
          | _ => exact p.elim
        | _ => exact p.elim
  | pow =>
    cases a with
    | loc l => cases b <;> exact p.elim
    | d x' =>
      cases b with
      | loc k => cases x' <;> exact p.elim
      | d y' =>
        cases x' with
        | int i =>
          cases y' with
          | int j =>
            obtain rfl := rd_int ra
            obtain rfl := rd_int rb
            simp only [bin] at p
            by_cases hz : 0 ≤ j ∧ j ≤ 1000000 ∧ i.natAbs < 2 ^ 64
            · rw [if_pos hz] at p
              exact op_pow pins s σ H _ _ v u Q I rx ry ⟨i, j, rfl, rfl, hz, post_data R p (.int _)⟩
            · rw [if_neg hz] at p; exact p.elim
          | _ => exact p.elim
        | _ => exact p.elim
end
end
end PI
/-! SND3: comparisons, subscripts, built-in calls, by values. -/
namespace PI
open PySem PySem.Spec PyProof.Rows L2

/-! ### data as the library's data -/
mutual
def D.py : D → PyData
  | .non => .none
  | .bl b => .bool b
  | .int i => .int i
  | .str s => .str ⟨s.toArray⟩
  | .tup xs => .tuple (pys xs)
  | .lst xs => .list (pys xs)
def pys : List D → List PyData
  | [] => []
  | x :: xs => x.py :: pys xs
end
theorem strV_eq (x : Str) : (⟨x.cps.toList.toArray⟩ : Str) = x := by
  obtain ⟨a⟩ := x
  simp
mutual
theorem eqv_py : ∀ x y : D, eqv x y = PyData.eqv x.py y.py
  | .non, y => by cases y <;> simp [eqv, PyData.eqv, D.py]
  | .bl a, y => by cases y <;> simp [eqv, PyData.eqv, D.py]
  | .int i, y => by cases y <;> simp [eqv, PyData.eqv, D.py]
  | .str s, y => by
    cases y with
    | str t =>
      simp only [eqv, PyData.eqv, D.py]
      rw [Bool.eq_iff_iff, beq_iff_eq, beq_iff_eq, str_eq_iff]
    | _ => simp [eqv, PyData.eqv, D.py]
  | .tup xs, y => by
    cases y with
    | tup ys => simp only [eqv, PyData.eqv, D.py]; exact eqvs_py xs ys
    | _ => simp [eqv, PyData.eqv, D.py]
  | .lst xs, y => by
    cases y with
    | lst ys => simp only [eqv, PyData.eqv, D.py]; exact eqvs_py xs ys
    | _ => simp [eqv, PyData.eqv, D.py]
theorem eqvs_py : ∀ xs ys : List D, eqvs xs ys = PyData.eqvAll (pys xs) (pys ys)
  | [], [] => by simp [eqvs, PyData.eqvAll, pys]
  | [], _ :: _ => by simp [eqvs, PyData.eqvAll, pys]
  | _ :: _, [] => by simp [eqvs, PyData.eqvAll, pys]
  | x :: xs, y :: ys => by simp only [eqvs, PyData.eqvAll, pys]; rw [eqv_py x y, eqvs_py xs ys]
end
mutual
theorem dle_py : ∀ (n : Nat) (x : D), dle n x = true → x.py.depth ≤ n
  | 0, .non, _ => by simp [D.py, PyData.depth]
  | 0, .bl _, _ => by simp [D.py, PyData.depth]
  | 0, .int _, _ => by simp [D.py, PyData.depth]
  | 0, .str _, _ => by simp [D.py, PyData.depth]
  | 0, .tup _, h => by simp [dle] at h
  | 0, .lst _, h => by simp [dle] at h
  | n + 1, .non, _ => by simp [D.py, PyData.depth]
  | n + 1, .bl _, _ => by simp [D.py, PyData.depth]
  | n + 1, .int _, _ => by simp [D.py, PyData.depth]
  | n + 1, .str _, _ => by simp [D.py, PyData.depth]
  | n + 1, .tup xs, h => by
    simp only [D.py, PyData.depth]
    have := dles_py n xs (by simpa [dle] using h)
    omega
  | n + 1, .lst xs, h => by
    simp only [D.py, PyData.depth]
    have := dles_py n xs (by simpa [dle] using h)
    omega
theorem dles_py : ∀ (n : Nat) (xs : List D), dles n xs = true → PyData.depthAll (pys xs) ≤ n
  | n, [], _ => by simp [pys, PyData.depthAll]
  | n, x :: xs, h => by
    have h' : dle n x = true ∧ dles n xs = true := by simpa [dles] using h
    simp only [pys, PyData.depthAll]
    have h1 := dle_py n x h'.1
    have h2 := dles_py n xs h'.2
    omega
end
section
variable {K : Fg} {H : Hp} {B : Addr → Prop}
mutual
theorem RD.dp : ∀ {v : V} {d : D}, RD K H B v d → Dp K H v d.py
  | _, _, .non => .non
  | _, _, .bl b => .bl b
  | _, _, .int i => .int i
  | _, _, .str x h _ => by
    simp only [D.py, strV_eq]
    exact .str x
  | _, _, .tup h r => by
    simp only [D.py]
    exact .tup h.sq (RDs.dp r)
  | _, _, .lst h r => by
    simp only [D.py]
    exact .lst h.sq (RDs.dp r)
theorem RDs.dp : ∀ {vs : List V} {ds : List D}, RDs K H B vs ds → DpAll K H vs (pys ds)
  | _, _, .nil => by simp only [pys]; exact .nil
  | _, _, .cons h t => by simp only [pys]; exact .cons (RD.dp h) (RDs.dp t)
end
mutual
theorem RD.lay : ∀ {v : V} {d : D}, RD K H B v d → d.py.canLay0 = true
  | _, _, .non => by simp [D.py, PyData.canLay0]
  | _, _, .bl b => by simp [D.py, PyData.canLay0]
  | _, _, .int i => by simp [D.py, PyData.canLay0]
  | _, _, .str x h _ => by simp only [D.py, strV_eq, PyData.canLay0]; exact h
  | _, _, .tup h r => by simp only [D.py, PyData.canLay0]; exact RDs.lay r
  | _, _, .lst h r => by simp only [D.py, PyData.canLay0]; exact RDs.lay r
theorem RDs.lay : ∀ {vs : List V} {ds : List D}, RDs K H B vs ds → PyData.canLayAll0 (pys ds) = true
  | _, _, .nil => by simp [pys, PyData.canLayAll0]
  | _, _, .cons h t => by simp only [pys, PyData.canLayAll0]; rw [RD.lay h, RDs.lay t]; rfl
end
end
theorem any_pys (xs : List D) (x : D) : (pys xs).any (fun y => PyData.eqv y x.py) = xs.any fun y => eqv y x := by
  induction xs with
  | nil => rfl
  | cons y ys ih => simp only [pys, List.any_cons]; rw [ih, eqv_py]

section
variable {X : Cx} {ec : EC} {W : XW}
/-- a value as data: a list of the store as it stands -/
theorem snap_dp {m : Mp} {st : Store} {H : Hp} {v : V} {w : Val} {d : D} (R : RelS X.K H m st) (r : RV X.K H m st.length v w) (h : snap st w = some d) : Dp X.K H v d.py ∧ d.py.canLay0 = true := by
  cases w with
  | d x => cases h; exact ⟨RD.dp r, RD.lay r⟩
  | loc l =>
    obtain ⟨h1, rfl⟩ := r
    simp only [snap] at h
    cases e : st[l]? with
    | none => rw [e] at h; cases h
    | some o =>
      rw [e] at h
      cases o with
      | lst xs =>
        cases h
        obtain ⟨vs, w1, w2⟩ := R.obj l _ e
        simp only [D.py, PyData.canLay0]
        exact ⟨.lst (SqL.of w1) w2.dp, w2.lay⟩
      | _ => cases h
def cmpOf : CmpO → CmpOp
  | .eq => .Eq | .ne => .NotEq | .lt => .Lt | .le => .LtE | .gt => .Gt | .ge => .GtE | .is => .Is | .isnt => .IsNot | .isin => .In | .notin => .NotIn
def rCmp (K : Fg) (o : CmpO) : R2 := fun x y H Q => ∃ m st a b k, RelS K H m st ∧ RV K H m st.length x a ∧ RV K H m st.length y b ∧ cmp o a b st = some k ∧ Q (.bl k) H
theorem isNone_v {m : Mp} {n : Nat} {H : Hp} {v : V} {w : Val} (r : RV X.K H m n v w) : decide (v = .non) = isNone w := by
  cases w with
  | loc l => obtain ⟨_, rfl⟩ := r; rfl
  | d x =>
    cases x with
    | non => rw [rd_non r]; rfl
    | bl b => rw [rd_bl r]; rfl
    | int b => rw [rd_int r]; rfl
    | str b => obtain ⟨x, rfl, _⟩ := rd_str r; rfl
    | tup b => obtain ⟨a, xs, rfl, _⟩ := rd_tup r; rfl
    | lst b => obtain ⟨a, xs, rfl, _⟩ := rd_lst r; rfl
theorem cmp_eq (hu : X.A.units + 65 < cLine) {pins : List (Addr × PySem.Obj)} {s : Shared} {σ : L2.St} {H : Hp} {x y : V} {v u : Value} (I : Inv X pins σ H s) (rx : RelV x v) (ry : RelV y u)
    {m : Mp} {st : Store} {a b : Val} {k : Bool} (R : RelS X.K H m st) (ra : RV X.K H m st.length x a) (rb : RV X.K H m st.length y b) (h : cmpEq a b st = some k) :
    ∀ (Q : Value → Shared → Prop), (Q (.bool k) s → wpAny (model X.prog X.w) X.A (compareOp .Eq v u) Q X.xe s) ∧ (Q (.bool (!k)) s → wpAny (model X.prog X.w) X.A (compareOp .NotEq v u) Q X.xe s) := by
  intro Q
  unfold cmpEq at h
  cases e1 : snap st a with
  | none => rw [e1] at h; cases h
  | some d =>
    cases e2 : snap st b with
    | none => rw [e1, e2] at h; cases h
    | some e =>
      rw [e1, e2] at h
      simp only [eqD] at h
      by_cases hz : (dle 60 d || dle 60 e) = true
      · rw [if_pos hz] at h
        obtain rfl : eqv d e = k := Option.some.inj h
        obtain ⟨p1, l1⟩ := snap_dp R ra e1
        obtain ⟨p2, l2⟩ := snap_dp R rb e2
        obtain ⟨as, r1⟩ := Dp.reads I d.py x v p1 rx
        obtain ⟨bs, r2⟩ := Dp.reads I e.py y u p2 ry
        have hm : X.A.units + min d.py.depth e.py.depth < cLine := by
          rcases Bool.or_eq_true_iff.mp hz with q | q
          · have := dle_py 60 d q
            omega
          · have := dle_py 60 e q
            omega
        rw [eqv_py]
        exact ⟨fun q => SeqAt.compareEq_reads r1 r2 l1 l2 hm q, fun q => SeqAt.compareNe_reads r1 r2 l1 l2 hm q⟩
      · rw [if_neg hz] at h; cases h
theorem cmp_in (hu : X.A.units + 65 < cLine) {pins : List (Addr × PySem.Obj)} {s : Shared} {σ : L2.St} {H : Hp} {x y : V} {v u : Value} (I : Inv X pins σ H s) (rx : RelV x v) (ry : RelV y u)
    {m : Mp} {st : Store} {a b : Val} {k : Bool} (R : RelS X.K H m st) (ra : RV X.K H m st.length x a) (rb : RV X.K H m st.length y b) (h : cmpIn a b st = some k) :
    ∀ (Q : VK), (Q (.bl k) H → wpAny (model X.prog X.w) X.A (compareOp .In v u) (EP X pins σ Q) X.xe s) ∧ (Q (.bl (!k)) H → wpAny (model X.prog X.w) X.A (compareOp .NotIn v u) (EP X pins σ Q) X.xe s) := by
  intro Q
  have fin : ∀ b : Bool, Q (.bl b) H → EP X pins σ Q (.bool b) s := fun b q => ⟨.bl b, H, I, rfl, q⟩
  have lists : ∀ (d : D) (ys : List D) (k : Bool), RD X.K H (Bof m st.length) x d → (∃ z : PyData, (z = .list (pys ys) ∨ z = .tuple (pys ys)) ∧ Dp X.K H y z ∧ PyData.canLayAll0 (pys ys) = true) → inD d ys = some k →
      (Q (.bl k) H → wpAny (model X.prog X.w) X.A (compareOp .In v u) (EP X pins σ Q) X.xe s) ∧ (Q (.bl (!k)) H → wpAny (model X.prog X.w) X.A (compareOp .NotIn v u) (EP X pins σ Q) X.xe s) := by
    intro d ys k rd hz hk
    simp only [inD] at hk
    by_cases hd : dle 60 d = true
    · rw [if_pos hd] at hk
      obtain rfl := Option.some.inj hk
      obtain ⟨z, hz1, hz2, hz3⟩ := hz
      obtain ⟨as, r1⟩ := Dp.reads I d.py x v rd.dp rx
      obtain ⟨bs, r2⟩ := Dp.reads I z y u hz2 ry
      have hm : X.A.units + 1 + min (PyData.depthAll (pys ys)) d.py.depth < cLine := by
        have := dle_py 60 d hd
        omega
      rw [← any_pys]
      rcases hz1 with rfl | rfl
      · exact ⟨fun q => SeqAt.in_list_reads r2 r1 hz3 rd.lay hm (fin _ q), fun q => SeqAt.notIn_list_reads r2 r1 hz3 rd.lay hm (fin _ q)⟩
      · exact ⟨fun q => SeqAt.in_tuple_reads r2 r1 hz3 rd.lay hm (fin _ q), fun q => SeqAt.notIn_tuple_reads r2 r1 hz3 rd.lay hm (fin _ q)⟩
    · rw [if_neg hd] at hk; cases hk
  cases a with
  | loc l => cases b <;> cases h
  | d d =>
    cases b with
    | loc l =>
      have h' : (match st[l]? with
        | some (.lst ys) => inD d ys
        | some (.dct kvs) => inD d (kvs.map (·.1))
        | some (.dctV kvs) => inD d (kvs.map (·.1))
        | _ => none) = some k := by cases d <;> exact h
      cases e : st[l]? with
      | none => rw [e] at h'; cases h'
      | some o =>
        rw [e] at h'
        obtain ⟨h1, rfl⟩ := rb
        have ro := R.obj l o e
        cases o with
        | lst ys =>
          obtain ⟨vs, w1, w2⟩ := ro
          exact lists d ys k ra ⟨_, .inl rfl, .lst (SqL.of w1) w2.dp, w2.lay⟩ h'
        | dct _ => exact ro.elim
        | dctV _ => exact ro.elim
        | lstV _ => cases h'
        | ins _ _ => cases h'
        | dead => cases h'
    | d e =>
      cases e with
      | tup ys =>
        have h' : inD d ys = some k := by cases d <;> exact h
        obtain ⟨a, xs, rfl, t, r⟩ := rd_tup rb
        exact lists d ys k ra ⟨_, .inr rfl, .tup t.sq r.dp, r.lay⟩ h'
      | lst ys =>
        have h' : inD d ys = some k := by cases d <;> exact h
        obtain ⟨a, xs, rfl, t, r⟩ := rd_lst rb
        exact lists d ys k ra ⟨_, .inl rfl, .lst t.sq r.dp, r.lay⟩ h'
      | str y' =>
        cases d with
        | str x' =>
          obtain ⟨x1, rfl, e1, _⟩ := rd_str ra
          obtain ⟨x2, rfl, e2, _⟩ := rd_str rb
          cases x' with
          | nil => cases h
          | cons c r =>
            cases r with
            | cons _ _ => cases h
            | nil =>
              obtain rfl : y'.contains c = k := Option.some.inj h
              have hx : x1 = ⟨#[c]⟩ := by
                rw [str_eq_iff, e1]
              subst hx
              have hd : decide (c ∈ x2.cps.toList) = y'.contains c := by
                rw [e2]; simp
              rw [← hd]
              exact ⟨fun q => op_in_sign pins s σ H _ _ v u Q I rx ry ⟨c, x2, rfl, rfl, q⟩, fun q => op_notIn_sign pins s σ H _ _ v u Q I rx ry ⟨c, x2, rfl, rfl, q⟩⟩
        | _ => cases h
      | _ => cases d <;> cases h
theorem op_cmp (hu : X.A.units + 65 < cLine) (o : CmpO) : OpR X (compareOp (cmpOf o)) (rCmp X.K o) := by
  intro pins s σ H x y v u Q I rx ry h
  obtain ⟨m, st, a, b, k, R, ra, rb, e, q⟩ := h
  have fin : EP X pins σ Q (.bool k) s := ⟨.bl k, H, I, rfl, q⟩
  have gints : ∀ (f : Int → Int → Bool), (match a, b with | .d (.int i), .d (.int j) => some (f i j) | _, _ => none) = some k → ∃ i j, x = .int i ∧ y = .int j ∧ k = f i j := by
    intro f hf
    cases a with
    | loc l => cases hf
    | d d =>
      cases b with
      | loc l => cases d <;> cases hf
      | d e9 =>
        cases d with
        | int i =>
          cases e9 with
          | int j =>
            exact ⟨i, j, rd_int ra, rd_int rb, (Option.some.inj hf).symm⟩
          | _ => cases hf
        | _ => cases hf
  cases o with
  | eq => exact (cmp_eq hu I rx ry R ra rb e _).1 fin
  | ne =>
    obtain ⟨k', e', rfl⟩ := Option.map_eq_some_iff.mp e
    exact (cmp_eq hu I rx ry R ra rb e' _).2 fin
  | isin => exact (cmp_in hu I rx ry R ra rb e Q).1 q
  | notin =>
    obtain ⟨k', e', rfl⟩ := Option.map_eq_some_iff.mp e
    exact (cmp_in hu I rx ry R ra rb e' Q).2 q
  | lt =>
    obtain ⟨i, j, rfl, rfl, rfl⟩ := gints (fun i j => decide (i < j)) (by cases a with | loc l => cases b <;> exact e | d d => cases b with | loc l => cases d <;> exact e | d e' => cases d <;> cases e' <;> exact e)
    exact op_lt pins s σ H _ _ v u Q I rx ry ⟨i, j, rfl, rfl, q⟩
  | le =>
    obtain ⟨i, j, rfl, rfl, rfl⟩ := gints (fun i j => decide (i ≤ j)) (by cases a with | loc l => cases b <;> exact e | d d => cases b with | loc l => cases d <;> exact e | d e' => cases d <;> cases e' <;> exact e)
    exact op_le pins s σ H _ _ v u Q I rx ry ⟨i, j, rfl, rfl, q⟩
  | gt =>
    obtain ⟨i, j, rfl, rfl, rfl⟩ := gints (fun i j => decide (j < i)) (by cases a with | loc l => cases b <;> exact e | d d => cases b with | loc l => cases d <;> exact e | d e' => cases d <;> cases e' <;> exact e)
    exact op_gt pins s σ H _ _ v u Q I rx ry ⟨i, j, rfl, rfl, q⟩
  | ge =>
    obtain ⟨i, j, rfl, rfl, rfl⟩ := gints (fun i j => decide (j ≤ i)) (by cases a with | loc l => cases b <;> exact e | d d => cases b with | loc l => cases d <;> exact e | d e' => cases d <;> cases e' <;> exact e)
    exact op_ge pins s σ H _ _ v u Q I rx ry ⟨i, j, rfl, rfl, q⟩
  | is =>
    simp only [cmp] at e
    by_cases hb : isNone b = true
    · rw [if_pos hb] at e
      obtain rfl := Option.some.inj e
      have hy : y = .non := by
        have := isNone_v rb
        rw [hb] at this
        exact of_decide_eq_true this
      rw [← isNone_v ra] at q
      exact op_isN pins s σ H _ _ v u Q I rx ry ⟨hy, q⟩
    · rw [if_neg hb] at e
      cases a with
      | loc l => cases e
      | d d =>
        cases b with
        | loc l => cases d <;> cases e
        | d e' =>
          cases d with
          | bl i =>
            cases e' with
            | bl j =>
              obtain rfl := Option.some.inj e
              obtain rfl := rd_bl ra
              obtain rfl := rd_bl rb
              refine op_is_bl pins s σ H _ _ v u Q I rx ry ⟨i, j, rfl, rfl, ?_⟩
              have : decide (i = j) = (i == j) := by cases i <;> cases j <;> rfl
              rw [this]; exact q
            | _ => cases e
          | _ => cases e
  | isnt =>
    simp only [cmp] at e
    by_cases hb : isNone b = true
    · rw [if_pos hb] at e
      obtain rfl := Option.some.inj e
      have hy : y = .non := by
        have := isNone_v rb
        rw [hb] at this
        exact of_decide_eq_true this
      rw [← isNone_v ra] at q
      exact op_notN pins s σ H _ _ v u Q I rx ry ⟨hy, q⟩
    · rw [if_neg hb] at e
      cases a with
      | loc l => cases e
      | d d =>
        cases b with
        | loc l => cases d <;> cases e
        | d e' =>
          cases d with
          | bl i =>
            cases e' with
            | bl j =>
              obtain rfl := Option.some.inj e
              obtain rfl := rd_bl ra
              obtain rfl := rd_bl rb
              refine op_isnot_bl pins s σ H _ _ v u Q I rx ry ⟨i, j, rfl, rfl, ?_⟩
              have : (!decide (i = j)) = (!(i == j)) := by cases i <;> cases j <;> rfl
              rw [this]; exact q
            | _ => cases e
          | _ => cases e
end
end PI
/-! SND4: subscripts, built-in calls, truth, types, methods, by values. -/
namespace PI
open PySem PySem.Spec PyProof.Rows L2
section
variable {X : Cx} {ec : EC} {W : XW}

theorem strOk_one {c : Nat} {x : Str} (h : PyData.strOk x = true) (hc : c ∈ x.cps.toList) : PyData.strOk ⟨#[c]⟩ = true := by
  rw [strOk_all] at h ⊢
  have := List.all_eq_true.mp h c hc
  simpa using this
theorem rd_sign {K : Fg} {H : Hp} {B : Addr → Prop} {c : Nat} {x : Str} (h : PyData.strOk x = true) (hc : c ∈ x.cps.toList) : RD K H B (.str ⟨#[c]⟩) (.str [c]) :=
  .str ⟨#[c]⟩ (strOk_one h hc) (show 1 ≤ sizeLine by decide)
theorem atI_of {α : Type} {xs : List α} {i : Int} {k : Nat} {x : α} (h1 : ixN xs.length i = some k) (h2 : xs[k]? = some x) : L2.atI xs i = some x := by
  unfold L2.atI
  rw [show L2.ixN xs.length i = some k from h1]
  exact h2
def rIndex (K : Fg) (ec : EC) (W : XW) : R2 := fun x y H Q => ∃ m st a i, RelS K H m st ∧ RV K H m st.length x a ∧ RV K H m st.length y i ∧ Post K ec W m st.length H (index a i st) (RV K) Q
theorem ix_index : IxR X (rIndex X.K ec W) := by
  intro value slice pins s σ H x y v u Q I rx ry h hs
  obtain ⟨m, st, a, i, R, ra, rb, p⟩ := h
  cases i with
  | loc l => exact p.elim
  | d i =>
    cases i with
    | int i =>
      obtain rfl := rd_int rb
      have lists : ∀ xs : List Val, listAt st a = some xs → Post X.K ec W m st.length H (match ixN xs.length i with
          | some k => match xs[k]? with
            | some x => .ok x st
            | none => .bad
          | none => .bad) (RV X.K) Q → wpAny (model X.prog X.w) X.A (subscriptTail value slice v u) (EP X pins σ Q) X.xe s := by
        intro xs hx p
        obtain ⟨b, vs, rfl, hq, rvs⟩ := list_at R ra hx
        cases e1 : ixN xs.length i with
        | none => rw [e1] at p; exact p.elim
        | some k =>
          cases e2 : xs[k]? with
          | none => rw [e1] at p; simp only [e2] at p; exact p.elim
          | some w =>
            rw [e1] at p
            simp only [e2] at p
            obtain ⟨z, hz, rz⟩ := RVs.get rvs e2
            exact ix_list value slice pins s σ H _ _ v u Q I rx ry ⟨b, vs, i, z, rfl, rfl, hq, atI_of (by rw [RVs.length rvs]; exact e1) hz, post_val R p rz⟩ hs
      cases a with
      | loc l =>
        simp only [index] at p
        cases e : listAt st (.loc l) with
        | none => rw [e] at p; exact p.elim
        | some xs => rw [e] at p; exact lists xs e p
      | d d =>
        cases d with
        | str z =>
          obtain ⟨z1, rfl, e1, k1, l1⟩ := rd_str ra
          simp only [index] at p
          cases e2 : ixN z.length i with
          | none => rw [e2] at p; exact p.elim
          | some k =>
            cases e3 : z[k]? with
            | none => rw [e2] at p; simp only [e3] at p; exact p.elim
            | some c =>
              rw [e2] at p
              simp only [e3] at p
              refine ix_str value slice pins s σ H _ _ v u Q I rx ry ⟨z1, i, c, rfl, rfl, l1, atI_of (by rw [e1]; exact e2) (by rw [e1]; exact e3), post_data R p (rd_sign k1 ?_)⟩ hs
              rw [e1]
              exact List.mem_of_getElem? e3
        | tup xs =>
          obtain ⟨b, vs, rfl, hq, rvs⟩ := rd_tup ra
          simp only [index] at p
          cases e2 : ixN xs.length i with
          | none => rw [e2] at p; exact p.elim
          | some k =>
            cases e3 : xs[k]? with
            | none => rw [e2] at p; simp only [e3] at p; exact p.elim
            | some w =>
              rw [e2] at p
              simp only [e3] at p
              obtain ⟨z, hz, rz⟩ := rvs.get e3
              exact ix_tup value slice pins s σ H _ _ v u Q I rx ry ⟨b, vs, i, z, rfl, rfl, hq.sq, atI_of (by rw [rvs.length]; exact e2) hz, post_data R p rz⟩ hs
        | lst xs => exact lists _ rfl p
        | non => exact p.elim
        | bl _ => exact p.elim
        | int _ => exact p.elim
    | _ => exact p.elim

/-! ### slices -/
theorem sIx_eq (n d : Nat) (o : Option Int) : HT.sIx n d o = sIx n d o := by cases o <;> rfl
theorem cut_cutV (xs : List V) (lo hi : Option Int) : cutV xs lo hi = cut xs lo hi := by
  unfold cutV cut
  simp only [sIx_eq]
theorem RDs.cut {K : Fg} {H : Hp} {B : Addr → Prop} {vs : List V} {ds : List D} (lo hi : Option Int) (r : RDs K H B vs ds) : RDs K H B (PI.cut vs lo hi) (PI.cut ds lo hi) := by
  unfold PI.cut
  rw [r.length]
  exact (r.drop _).take _
theorem RVs.cut {K : Fg} {H : Hp} {m : Mp} {n : Nat} {vs : List V} {ws : List Val} (lo hi : Option Int) (r : RVs K H m n vs ws) : RVs K H m n (PI.cut vs lo hi) (PI.cut ws lo hi) := by
  unfold PI.cut
  rw [RVs.length r]
  exact RVs.take _ (RVs.drop _ r)
theorem cutS_list (z : Str) (lo hi : Option Int) : (cutS z lo hi).cps.toList = cut z.cps.toList lo hi := by
  unfold cutS PI.cut
  simp only [sIx_eq, str_len]
theorem mem_cut {α : Type} {x : α} {xs : List α} {lo hi : Option Int} (h : x ∈ cut xs lo hi) : x ∈ xs := List.mem_of_mem_drop (List.mem_of_mem_take h)
theorem length_cut {α : Type} (xs : List α) (lo hi : Option Int) : (cut xs lo hi).length ≤ xs.length := by
  unfold cut
  rw [List.length_take, List.length_drop]
  omega
/-- a part of a slice -/
def OI (w : Option Val) (o : Option Int) : Prop := optInt w = some o
def rSlice (K : Fg) (ec : EC) (W : XW) : V → Option Int → Option Int → Hp → VK → Prop := fun x l h H Q => ∃ m st a lo hi, RelS K H m st ∧ RV K H m st.length x a ∧ optInt lo = some l ∧ optInt hi = some h ∧ Post K ec W m st.length H (slice a lo hi st) (RV K) Q
theorem sl_slice : SlR X (rSlice X.K ec W) := by
  intro pins s σ H x v vl vu l h sl Q I rx hs pl pu hw
  obtain ⟨m, st, a, lo, hi, R, ra, el, eh, p⟩ := hw
  simp only [slice, el, eh] at p
  cases a with
  | loc k =>
    obtain ⟨h1, rfl⟩ := ra
    simp only at p
    cases e : st[k]? with
    | none => rw [e] at p; exact p.elim
    | some o =>
      have ro := R.obj k o e
      cases o with
      | lst xs =>
        rw [e] at p
        obtain ⟨vs, w1, w2⟩ := ro
        exact sl_list pins s σ H _ v vl vu l h sl Q I rx hs pl pu ⟨m k, vs, rfl, SqL.of w1, fun q hq => by rw [cut_cutV]; exact post_allocD R p (w2.cut l h) hq⟩
      | lstV xs =>
        rw [e] at p
        obtain ⟨vs, w1, w2⟩ := ro
        exact sl_list pins s σ H _ v vl vu l h sl Q I rx hs pl pu ⟨m k, vs, rfl, SqL.of w1, fun q hq => by rw [cut_cutV]; exact post_alloc R p (RVs.cut l h w2) hq⟩
      | dct _ => exact ro.elim
      | dctV _ => exact ro.elim
      | ins _ _ => exact ro.elim
      | dead => exact ro.elim
  | d d =>
    cases d with
    | str z =>
      obtain ⟨z1, rfl, e1, k1, l1⟩ := rd_str ra
      simp only at p
      refine sl_str pins s σ H _ v vl vu l h sl Q I rx hs pl pu ⟨z1, rfl, l1, post_data R p ?_⟩
      have e2 : cut z l h = (cutS z1 l h).cps.toList := by rw [cutS_list, e1]
      rw [e2]
      refine .str _ ?_ ?_
      · rw [strOk_all] at k1 ⊢
        rw [cutS_list]
        exact List.all_eq_true.mpr fun c hc => List.all_eq_true.mp k1 c (mem_cut hc)
      · rw [str_len, cutS_list]
        rw [str_len] at l1
        exact Nat.le_trans (length_cut _ _ _) l1
    | tup xs =>
      obtain ⟨b, vs, rfl, hq, rvs⟩ := rd_tup ra
      simp only at p
      refine sl_tupA pins s σ H _ v vl vu l h sl Q I rx hs pl pu ⟨b, vs, rfl, hq.sq, fun hz => ?_, fun _ q hq => ?_⟩
      · have e : cut xs l h = xs := by
          unfold PI.cut
          rw [← rvs.length, ← sIx_eq, ← sIx_eq, hz.1, hz.2, List.drop_zero, Nat.sub_zero, rvs.length, List.take_length]
        rw [e] at p
        exact post_data R p (.tup hq rvs)
      · rw [cut_cutV]
        exact post_tup R p (rvs.cut l h) hq
    | lst xs =>
      obtain ⟨b, vs, rfl, hq, rvs⟩ := rd_lst ra
      simp only at p
      exact sl_list pins s σ H _ v vl vu l h sl Q I rx hs pl pu ⟨b, vs, rfl, hq.sq, fun q hq => by rw [cut_cutV]; exact post_allocD R p (rvs.cut l h) hq⟩
    | non => exact p.elim
    | bl _ => exact p.elim
    | int _ => exact p.elim

/-! ### truth -/
theorem truthy_v {H : Hp} {m : Mp} {st : Store} {v : V} {w : Val} {k : Bool} (R : RelS X.K H m st) (r : RV X.K H m st.length v w) (h : truthy st w = some k) : TruV X.K v H k := by
  cases w with
  | d d =>
    cases d with
    | non => rw [rd_non r]; exact (Option.some.inj h).symm
    | bl b => rw [rd_bl r]; exact (Option.some.inj h).symm
    | int i => rw [rd_int r]; exact (Option.some.inj h).symm
    | str z =>
      obtain ⟨z1, rfl, e1, k1, l1⟩ := rd_str r
      refine ⟨l1, ?_⟩
      rw [str_len, e1]
      obtain rfl : (!z.isEmpty) = k := Option.some.inj h
      cases z with
      | nil => rfl
      | cons a b => simp; omega
    | tup xs =>
      obtain ⟨b, vs, rfl, hq, rvs⟩ := rd_tup r
      refine .inr (.inl ⟨vs, hq.sq, ?_⟩)
      obtain rfl : (!xs.isEmpty) = k := Option.some.inj h
      cases rvs <;> rfl
    | lst xs =>
      obtain ⟨b, vs, rfl, hq, rvs⟩ := rd_lst r
      refine .inl ⟨vs, hq.sq, ?_⟩
      obtain rfl : (!xs.isEmpty) = k := Option.some.inj h
      cases rvs <;> rfl
  | loc l =>
    obtain ⟨h1, rfl⟩ := r
    simp only [truthy] at h
    cases e : st[l]? with
    | none => rw [e] at h; cases h
    | some o =>
      have ro := R.obj l o e
      rw [e] at h
      cases o with
      | lst xs =>
        obtain ⟨vs, w1, w2⟩ := ro
        refine .inl ⟨vs, SqL.of w1, ?_⟩
        obtain rfl : (!xs.isEmpty) = k := Option.some.inj h
        cases w2 <;> rfl
      | lstV xs =>
        obtain ⟨vs, w1, w2⟩ := ro
        refine .inl ⟨vs, SqL.of w1, ?_⟩
        obtain rfl : (!xs.isEmpty) = k := Option.some.inj h
        cases w2 <;> rfl
      | dct _ => exact ro.elim
      | dctV _ => exact ro.elim
      | ins _ _ => exact ro.elim
      | dead => exact ro.elim

/-! ### built-in calls -/
def rB (K : Fg) (ec : EC) (W : XW) (f : BF) : List V → Hp → VK → Prop := fun xs H Q => ∃ m st ws, RelS K H m st ∧ RVs K H m st.length xs ws ∧ Post K ec W m st.length H (bcall f ws st) (RV K) Q
theorem rvs_one {H : Hp} {m : Mp} {n : Nat} {vs : List V} {w : Val} (r : RVs X.K H m n vs [w]) : ∃ v, vs = [v] ∧ RV X.K H m n v w := by
  cases r with
  | cons a b => cases b; exact ⟨_, rfl, a⟩
/-- a list to read -/
theorem list_len {H : Hp} {m : Mp} {st : Store} {v : V} {w : Val} {xs : List Val} (R : RelS X.K H m st) (r : RV X.K H m st.length v w) (h : listAt st w = some xs) : ∃ a vs, v = .ref a ∧ SqL X.K H a vs ∧ RVs X.K H m st.length vs xs := list_at R r h
theorem cr_len : CallR X (.builtin "len") (rB X.K ec W .len) := by
  intro pins s σ H xs us Q I r h
  obtain ⟨m, st, ws, R, rv, p⟩ := h
  cases ws with
  | nil => exact p.elim
  | cons w ws =>
    cases ws with
    | cons _ _ =>
      cases w with
      | loc l => exact p.elim
      | d d => cases d <;> exact p.elim
    | nil =>
      obtain ⟨v, rfl, ra⟩ := rvs_one rv
      have lists : ∀ ys : List Val, listAt st w = some ys → Post X.K ec W m st.length H (.ok (.d (.int ys.length)) st) (RV X.K) Q → wpAny (model X.prog X.w) X.A (call (.builtin "len") us) (EP X pins σ Q) X.xe s := by
        intro ys hy p
        obtain ⟨a, vs, rfl, hq, rvs⟩ := list_at R ra hy
        refine call_len_seq pins s σ H _ us Q I r ⟨a, vs, rfl, .inl hq, ?_⟩
        rw [RVs.length rvs]
        exact post_data R p (.int _)
      cases w with
      | loc l =>
        simp only [bcall] at p
        cases e : listAt st (.loc l) with
        | some ys => rw [e] at p; exact lists ys e p
        | none =>
          rw [e] at p
          simp only at p
          cases e2 : st[l]? with
          | none => rw [e2] at p; exact p.elim
          | some o =>
            have ro := R.obj l o e2
            rw [e2] at p
            cases o with
            | dct _ => exact ro.elim
            | dctV _ => exact ro.elim
            | lst _ => exact p.elim
            | lstV _ => exact p.elim
            | ins _ _ => exact p.elim
            | dead => exact p.elim
      | d d =>
        cases d with
        | str z =>
          obtain ⟨z1, rfl, e1, k1, l1⟩ := rd_str ra
          refine call_len_str pins s σ H _ us Q I r ⟨z1, rfl, l1, ?_⟩
          rw [str_len, e1]
          exact post_data R p (.int _)
        | tup ys =>
          obtain ⟨b, vs, rfl, hq, rvs⟩ := rd_tup ra
          refine call_len_seq pins s σ H _ us Q I r ⟨b, vs, rfl, .inr hq.sq, ?_⟩
          rw [rvs.length]
          exact post_data R p (.int _)
        | lst ys => exact lists _ rfl p
        | non => exact p.elim
        | bl _ => exact p.elim
        | int _ => exact p.elim
theorem cr_int : CallR X (.type "int") (rB X.K ec W .int) := by
  intro pins s σ H xs us Q I r h
  obtain ⟨m, st, ws, R, rv, p⟩ := h
  cases ws with
  | nil => exact p.elim
  | cons w ws =>
    cases ws with
    | cons _ _ =>
      cases w with
      | loc l => exact p.elim
      | d d => cases d <;> exact p.elim
    | nil =>
      obtain ⟨v, rfl, ra⟩ := rvs_one rv
      cases w with
      | loc l => exact p.elim
      | d d =>
        cases d with
        | int i =>
          obtain rfl := rd_int ra
          exact call_int1 pins s σ H _ us Q I r (.inl ⟨i, rfl, post_data R p (.int _)⟩)
        | bl b =>
          obtain rfl := rd_bl ra
          exact call_int1 pins s σ H _ us Q I r (.inr ⟨b, rfl, post_data R p (.int _)⟩)
        | non => exact p.elim
        | str _ => exact p.elim
        | tup _ => exact p.elim
        | lst _ => exact p.elim
theorem cr_tuple : CallR X (.type "tuple") (rB X.K ec W .tuple) := by
  intro pins s σ H xs us Q I r h
  obtain ⟨m, st, ws, R, rv, p⟩ := h
  cases ws with
  | nil => exact p.elim
  | cons w ws =>
    cases ws with
    | cons _ _ =>
      cases w with
      | loc l => exact p.elim
      | d d => cases d <;> exact p.elim
    | nil =>
      obtain ⟨v, rfl, ra⟩ := rvs_one rv
      have lists : ∀ ys : List Val, listAt st w = some ys → Post X.K ec W m st.length H (match ys.mapM Val.data? with | some ds => .ok (.d (.tup ds)) st | none => .bad) (RV X.K) Q →
          wpAny (model X.prog X.w) X.A (call (.type "tuple") us) (EP X pins σ Q) X.xe s := by
        intro ys hy p
        obtain ⟨a, vs, rfl, hq, rvs⟩ := list_at R ra hy
        cases e : ys.mapM Val.data? with
        | none => rw [e] at p; exact p.elim
        | some ds =>
          rw [e] at p
          exact call_tuple_of pins s σ H _ us Q I r ⟨a, vs, rfl, .inl ⟨hq, fun l hl => post_tup R p (rvs.datas e) hl⟩⟩
      cases w with
      | loc l =>
        simp only [bcall] at p
        cases e : listAt st (.loc l) with
        | some ys => rw [e] at p; exact lists ys e p
        | none => rw [e] at p; exact p.elim
      | d d =>
        cases d with
        | tup ys =>
          obtain ⟨b, vs, rfl, hq, rvs⟩ := rd_tup ra
          exact call_tuple_of pins s σ H _ us Q I r ⟨b, vs, rfl, .inr ⟨hq.sq, post_data R p (.tup hq rvs)⟩⟩
        | lst ys => exact lists _ rfl p
        | non => exact p.elim
        | str _ => exact p.elim
        | bl _ => exact p.elim
        | int _ => exact p.elim
theorem cr_list : CallR X (.type "list") (rB X.K ec W .list) := by
  intro pins s σ H xs us Q I r h
  obtain ⟨m, st, ws, R, rv, p⟩ := h
  cases ws with
  | nil => exact p.elim
  | cons w ws =>
    cases ws with
    | cons _ _ =>
      cases w with
      | loc l => exact p.elim
      | d d => cases d <;> exact p.elim
    | nil =>
      obtain ⟨v, rfl, ra⟩ := rvs_one rv
      have lists : ∀ ys : List Val, listAt st w = some ys → Post X.K ec W m st.length H (alloc (mkLst ys) st) (RV X.K) Q →
          wpAny (model X.prog X.w) X.A (call (.type "list") us) (EP X pins σ Q) X.xe s := by
        intro ys hy p
        obtain ⟨a, vs, rfl, hq, rvs⟩ := list_at R ra hy
        exact call_list_of pins s σ H _ us Q I r ⟨a, vs, rfl, .inl hq, fun l hl => post_alloc R p rvs hl⟩
      cases w with
      | loc l =>
        simp only [bcall] at p
        cases e : listAt st (.loc l) with
        | some ys => rw [e] at p; exact lists ys e p
        | none => rw [e] at p; exact p.elim
      | d d =>
        cases d with
        | tup ys =>
          obtain ⟨b, vs, rfl, hq, rvs⟩ := rd_tup ra
          exact call_list_of pins s σ H _ us Q I r ⟨b, vs, rfl, .inr hq.sq, fun l hl => post_allocD R p rvs hl⟩
        | lst ys => exact lists _ rfl p
        | non => exact p.elim
        | str _ => exact p.elim
        | bl _ => exact p.elim
        | int _ => exact p.elim

/-! ### types -/
def tyName : Ty → String
  | .int => "int" | .str => "str" | .bool => "bool" | .tuple => "tuple" | .list => "list"
theorem tupAt_ty {K : Fg} {H : Hp} {B : Addr → Prop} {a : Addr} {xs : List V} (h : TupAt K H B a xs) : TyX K H (.ref a) (.type "tuple") := by
  rcases h with ⟨h | ⟨o, h⟩, _⟩ | ⟨o, its, n, h1, h2, _⟩
  · exact .base (.tup h)
  · exact .fTuple h
  · exact .kTuple h1 h2
theorem lstAt_ty {K : Fg} {H : Hp} {B : Addr → Prop} {a : Addr} {xs : List V} (h : LstAt K H B a xs) : TyX K H (.ref a) (.type "list") := by
  rcases h with ⟨⟨o, h⟩, _⟩ | ⟨o, its, n, h1, h2, _⟩
  · exact .base (.frz h)
  · exact .kList h1 h2
theorem isTy_v {H : Hp} {m : Mp} {st : Store} {v : V} {w : Val} {k : Bool} {t : Ty} (R : RelS X.K H m st) (r : RV X.K H m st.length v w) (h : isTy st t w = some k) : ∃ u, TyX X.K H v u ∧ PySem.W.kitOne X.K u (.type (tyName t)) = some k := by
  cases w with
  | d d =>
    cases d with
    | non =>
      rw [rd_non r]; cases h
      exact ⟨_, .base .non, by cases t <;> exact kit_ty (by decide +kernel)⟩
    | bl b =>
      rw [rd_bl r]
      exact ⟨_, .base (.bl _), by cases t <;> cases h <;> exact kit_ty (by decide +kernel)⟩
    | int i =>
      rw [rd_int r]
      exact ⟨_, .base (.int _), by cases t <;> cases h <;> exact kit_ty (by decide +kernel)⟩
    | str z =>
      obtain ⟨z1, rfl, _⟩ := rd_str r
      exact ⟨_, .base (.str _), by cases t <;> cases h <;> exact kit_ty (by decide +kernel)⟩
    | tup xs =>
      obtain ⟨b, vs, rfl, hq, rvs⟩ := rd_tup r
      exact ⟨_, tupAt_ty hq, by cases t <;> cases h <;> exact kit_ty (by decide +kernel)⟩
    | lst xs =>
      obtain ⟨b, vs, rfl, hq, rvs⟩ := rd_lst r
      exact ⟨_, lstAt_ty hq, by cases t <;> cases h <;> exact kit_ty (by decide +kernel)⟩
  | loc l =>
    obtain ⟨h1, rfl⟩ := r
    simp only [isTy] at h
    cases e : st[l]? with
    | none => rw [e] at h; cases h
    | some o =>
      have ro := R.obj l o e
      rw [e] at h
      cases o with
      | lst xs =>
        obtain ⟨vs, w1, w2⟩ := ro
        exact ⟨_, .base (.lst w1), by cases t <;> cases h <;> exact kit_ty (by decide +kernel)⟩
      | lstV xs =>
        obtain ⟨vs, w1, w2⟩ := ro
        exact ⟨_, .base (.lst w1), by cases t <;> cases h <;> exact kit_ty (by decide +kernel)⟩
      | dct _ => exact ro.elim
      | dctV _ => exact ro.elim
      | ins _ _ => exact ro.elim
      | dead => exact ro.elim

/-! ### methods, stores -/
def rM (K : Fg) (ec : EC) (W : XW) (f : BM) : V → List V → Hp → VK → Prop := fun x xs H Q => ∃ m st w ws, RelS K H m st ∧ RV K H m st.length x w ∧ RVs K H m st.length xs ws ∧ Post K ec W m st.length H (bmeth f w ws st) (RV K) Q
theorem mr_append : MtR X "list.append" (rM X.K ec W .append) := by
  intro pins s σ H x xs v us Q I rx rxs h
  obtain ⟨m, st, w, ws, R, ra, rv, p⟩ := h
  cases w with
  | d d => exact p.elim
  | loc l =>
    cases ws with
    | nil => exact p.elim
    | cons y ws =>
      cases ws with
      | cons _ _ => exact p.elim
      | nil =>
        obtain ⟨z, rfl, rz⟩ := rvs_one rv
        obtain ⟨h1, rfl⟩ := ra
        simp only [bmeth] at p
        cases e : st[l]? with
        | none => rw [e] at p; exact p.elim
        | some o =>
          have ro := R.obj l o e
          rw [e] at p
          cases o with
          | lst ys =>
            obtain ⟨vs, w1, w2⟩ := ro
            simp only at p
            by_cases hz : ys.length < big
            · rw [if_pos hz] at p
              refine mt_append pins s σ H _ _ v us Q I rx rxs ⟨m l, vs, z, rfl, rfl, w1, by rw [w2.length]; exact hz, ?_⟩
              cases y with
              | d d =>
                refine post_set R p h1 ⟨_, upd_same, ?_⟩
                have A := aft_set (o := .lst (ys ++ [d])) (u := .lst (vs ++ [z])) R h1
                exact (w2.aft A).append (.cons (RD.aft A rz) .nil)
              | loc k =>
                refine post_set R p h1 ⟨_, upd_same, ?_⟩
                have A := aft_set (o := .lstV (ys.map .d ++ [.loc k])) (u := .lst (vs ++ [z])) R h1
                exact RVs.append (RVs.aft A w2.vals) (.cons (RV.aft A (w := .loc k) rz) .nil)
            · rw [if_neg hz] at p; exact p.elim
          | lstV ys =>
            obtain ⟨vs, w1, w2⟩ := ro
            simp only at p
            by_cases hz : ys.length < big
            · rw [if_pos hz] at p
              refine mt_append pins s σ H _ _ v us Q I rx rxs ⟨m l, vs, z, rfl, rfl, w1, by rw [RVs.length w2]; exact hz, ?_⟩
              refine post_set R p h1 ⟨_, upd_same, ?_⟩
              have A := aft_set (o := .lstV (ys ++ [y])) (u := .lst (vs ++ [z])) R h1
              exact RVs.append (RVs.aft A w2) (.cons (RV.aft A rz) .nil)
            · rw [if_neg hz] at p; exact p.elim
          | dct _ => exact ro.elim
          | dctV _ => exact ro.elim
          | ins _ _ => exact ro.elim
          | dead => exact ro.elim
def unitRel : Rl Unit Unit := fun _ _ _ _ _ => True
def rSet (K : Fg) (ec : EC) (W : XW) : TSet := fun o i v H Q => ∃ m st a b w, RelS K H m st ∧ RV K H m st.length o a ∧ RV K H m st.length i b ∧ RV K H m st.length v w ∧ Post K ec W m st.length H (setItem a b w st) unitRel fun _ H' => Q H'
theorem ps_setItem : PSet X (rSet X.K ec W) := by
  intro pins s σ H o i v ov iv u Q I ro ri rv h
  obtain ⟨m, st, a, b, w, R, ra, rb, rw_, p⟩ := h
  cases a with
  | d d => exact p.elim
  | loc l =>
    cases b with
    | loc k => exact p.elim
    | d d =>
      cases d with
      | int k =>
        obtain rfl := rd_int rb
        obtain ⟨h1, rfl⟩ := ra
        simp only [setItem] at p
        cases e : st[l]? with
        | none => rw [e] at p; exact p.elim
        | some ob =>
          have rob := R.obj l ob e
          rw [e] at p
          have fin : ∀ (ob' : Obj) (u' : HO), RO X.K (upd H (m l) u') m (st.set l ob').length (m l) ob' → Post X.K ec W m st.length H (.ok () (st.set l ob')) unitRel (fun _ H' => Q H') → Q (upd H (m l) u') :=
            fun ob' u' r p => p m _ () (aft_set R h1) (R.set h1 r) True.intro
          cases ob with
          | lst ys =>
            obtain ⟨vs, w1, w2⟩ := rob
            simp only at p
            cases e2 : ixN ys.length k with
            | none => rw [e2] at p; exact p.elim
            | some j =>
              rw [e2] at p
              refine set_list pins s σ H _ _ v ov iv u Q I ro ri rv ⟨m l, vs, k, j, rfl, rfl, w1, by rw [w2.length]; exact e2, ?_⟩
              cases w with
              | d d =>
                refine fin (.lst (ys.set j d)) _ ⟨_, upd_same, ?_⟩ p
                have A := aft_set (o := .lst (ys.set j d)) (u := .lst (vs.set j v)) R h1
                exact RDs.set (RD.aft A rw_) j (w2.aft A)
              | loc q =>
                refine fin (.lstV ((ys.map .d).set j (.loc q))) _ ⟨_, upd_same, ?_⟩ p
                have A := aft_set (o := .lstV ((ys.map .d).set j (.loc q))) (u := .lst (vs.set j v)) R h1
                exact RVs.set (w := .loc q) (RV.aft A (w := .loc q) rw_) j (RVs.aft A w2.vals)
          | lstV ys =>
            obtain ⟨vs, w1, w2⟩ := rob
            simp only at p
            cases e2 : ixN ys.length k with
            | none => rw [e2] at p; exact p.elim
            | some j =>
              rw [e2] at p
              refine set_list pins s σ H _ _ v ov iv u Q I ro ri rv ⟨m l, vs, k, j, rfl, rfl, w1, by rw [RVs.length w2]; exact e2, ?_⟩
              refine fin (.lstV (ys.set j w)) _ ⟨_, upd_same, ?_⟩ p
              have A := aft_set (o := .lstV (ys.set j w)) (u := .lst (vs.set j v)) R h1
              exact RVs.set (RV.aft A rw_) j (RVs.aft A w2)
          | dct _ => exact rob.elim
          | dctV _ => exact rob.elim
          | ins _ _ => exact rob.elim
          | dead => exact rob.elim
      | _ => exact p.elim
end
end PI
/-! SND5: expressions, sound. -/
namespace PI
open PySem PySem.Spec PyProof.Rows L2

/-- the program's facts -/
structure Tb where
  P : Program
  w : World
  K : Fg
  mg : Str → Option Value
  base : Heap
  G : List (Str × GRef)
  prog : List Fn
  ec : EC
  fa : Nat → Addr
  fd : Nat → FuncData
  ps : Nat → List Str
def spF (T : Tb) (n f : Nat) : Sp := fun vs H Q E => vs.length = (T.ps f).length ∧ ∃ m st ws, RelS T.K H m st ∧ RVs T.K H m st.length vs ws ∧
  Post T.K T.ec (fun c d H' => E c d H') m st.length H (callN T.prog n f ws st) (RV T.K) Q
def bltNames : List Str := ["len", "int", "tuple", "list", "isinstance", "range", "str", "bool"]
/-- an own error's __init__(self, place, reason) -/
def spI (C : Addr) : Sp := fun vs H Q _ => ∃ (a : Addr) (p r : V), vs = [.ref a, p, r] ∧ H a = some (exo a C none) ∧
  ∀ dx, H dx = none → dx ≠ a → Q .non (upd (upd (upd H dx (exd dx [("place", p)])) a (exo a C (some dx))) dx (exd dx [("reason", r), ("place", p)]))
/-- what is needed of an error's class that is raised -/
structure XOk (P : Program) (w : World) (K : Fg) (mg : Str → Option Value) (base : Heap) (C : Addr) : Prop where
  oex : OexC K C
  xf : XfC K C
  cl : (PySem.W.clsIn K C).isSome = true
  ha : PySem.W.findIn K (.ref C) "__class__" = some (some (.builtin "object.__class__"))
  hn : PySem.W.specialIn K (.builtin "object.__class__") "__get__" = some (some (.builtin "getset_descriptor.__get__"))
  ht : PySem.W.takesIn K (.builtin "object.__class__") = some true
  hm : PySem.W.mroIn K C (.type "object") = some true
  f1 : PySem.W.findIn K (.ref C) "place" = some none
  f2 : PySem.W.findIn K (.ref C) "reason" = some none
  ini : ∃ fI fd, PySem.W.findIn K (.ref C) "__init__" = some (some (.ref fI)) ∧ PySem.W.typeIn K (.ref fI) = some (.type "function") ∧ Binds K fd ["self", "place", "reason"] [] ∧
    FnOk P w K mg base (L2.CX P w) 1 fI fd ["self", "place", "reason"] (spI C)
structure Facts (T : Tb) : Prop where
  con : ∀ x d, T.G.lookup x = some (.con d) → ∃ v u, T.mg x = some u ∧ RelV v u ∧ ∀ H B, RD T.K H B v d
  fn : ∀ x f, T.G.lookup x = some (.fn f) → T.mg x = some (.ref (T.fa f)) ∧ PySem.W.keepIn T.K (.ref (T.fa f)) = true ∧ Binds T.K (T.fd f) (T.ps f) [] ∧ ∃ F, T.prog[f]? = some F
  blt : ∀ x, x ∈ bltNames → T.mg x = none
  nm : ∀ x r, T.G.lookup x = some r → (x == ("__debug__" : Str)) = false
  np : ∀ f F, T.prog[f]? = some F → (T.ps f).length = F.np
  cls : ∀ x c, T.G.lookup x = some (.cls c) → T.mg x = some (.ref (T.ec c).1) ∧ (c ≠ 0 → (T.ec c).2.2 = true)
  xok : ∀ c, (T.ec c).2.2 = true → XOk T.P T.w T.K T.mg T.base (T.ec c).1 ∧ (T.ec c).2.1 = [("reason" : Str), ("place" : Str)]
  exm : ∀ c x d, (T.ec c).2.2 = true → T.G.lookup x = some (.cls d) → PySem.W.exmOne T.K (.ref (T.ec c).1) (.ref (T.ec d).1) = some (subCls c d) ∧ PySem.W.kitOne T.K (.ref (T.ec c).1) (.ref (T.ec d).1) = some (subCls c d)
def FnsOk (T : Tb) (n : Nat) : Prop := ∀ f F, T.prog[f]? = some F → FnOk T.P T.w T.K T.mg T.base (L2.CX T.P T.w) (n + 2) (T.fa f) (T.fd f) (T.ps f) (spF T n f)

structure Good (T : Tb) (n : Nat) (C : CC) (X : Cx) (W : XW) : Prop where
  prog : T.P = X.prog
  w : T.w = X.w
  K : T.K = X.K
  mg : T.mg = X.mg
  base : T.base = X.base
  N : X.N = C.N
  sc : X.env.scope.names = C.names
  G : C.G = T.G
  hr : Room (n + 2) X.A
  stk : X.stack = X.env :: X.outer
  frm : X.env.frame = some X.env.locals
  calm : X.calm = true
  nd : C.N.Nodup
  nm : ∀ x, x ∈ C.N → (x == ("__debug__" : Str)) = false ∧ (x == ("__classdict__" : Str)) = false
  fnl : ∀ x, Loc X.env.scope x → X.fn x = true ∨ X.env.scope.names.lookup x = some .local
  tk : Takes X (fun c d _ H => W c d H)
  po : PassesOwn (model X.prog X.w) X.A X.env X.xe
  F : Facts T
  ok : FnsOk T n

section
variable {X : Cx}
theorem pe_imp {e : Expr} {t t' : TE} (h : PE X e t) (i : ∀ σ H Q, t' σ H Q → t σ H Q) : PE X e t' := ⟨fun pins s σ H Q I q => h.run pins s σ H Q I (i σ H Q q)⟩
theorem pt_imp {e : Expr} {t t' : TT} (h : PT X e t) (i : ∀ σ H Q, t' σ H Q → t σ H Q) : PT X e t' := ⟨fun pins s σ H Q I q => h.run pins s σ H Q I (i σ H Q q)⟩
theorem pw_imp {e : Expr} {t t' : TT} (h : PW X e t) (i : ∀ σ H Q, t' σ H Q → t σ H Q) : PW X e t' := ⟨fun w pins s σ H Q I q => h.run w pins s σ H Q I (i σ H Q q)⟩
theorem pa_imp {e : List Expr} {t t' : TA} (h : PA X e t) (i : ∀ σ H Q, t' σ H Q → t σ H Q) : PA X e t' := ⟨fun pos pins s σ H Q I q => h.run pos pins s σ H Q I (i σ H Q q)⟩
end

/-! ### what was compiled -/
section
variable {C : CC} {n : Nat}
theorem ixOf_get : ∀ {l : List Str} {x : Str} {k i : Nat}, ixOf x l k = some i → k ≤ i ∧ l[i - k]? = some x
  | [], x, k, i, h => by cases h
  | y :: ys, x, k, i, h => by
    unfold ixOf at h
    split at h
    · cases h
      rename_i e
      exact ⟨Nat.le_refl _, by simp [e]⟩
    · obtain ⟨h1, h2⟩ := ixOf_get h
      refine ⟨by omega, ?_⟩
      have : i - k = (i - (k + 1)) + 1 := by omega
      rw [this, List.getElem?_cons_succ]
      exact h2
theorem slot_vis {x : Str} {i : Nat} (h : C.slot x = some i) : C.N[i]? = some x ∧ (C.names.lookup x = some .local ∨ C.names.lookup x = some .cell ∨ C.names.lookup x = some .free) := by
  unfold CC.slot at h
  split at h
  · rename_i e; exact ⟨(ixOf_get h).2, .inl e⟩
  · rename_i e; exact ⟨(ixOf_get h).2, .inr (.inl e)⟩
  · rename_i e; exact ⟨(ixOf_get h).2, .inr (.inr e)⟩
  · cases h
theorem own_loc {x : Str} {i : Nat} (h : C.own x = some i) : C.N[i]? = some x ∧ (C.names.lookup x = some .local ∨ C.names.lookup x = some .cell) := by
  unfold CC.own at h
  split at h
  · rename_i e; exact ⟨(ixOf_get h).2, .inl e⟩
  · rename_i e; exact ⟨(ixOf_get h).2, .inr e⟩
  · cases h
theorem glob_gl {x : Str} (h : C.glob x = true) : C.names.lookup x = some .globalImplicit := by
  unfold CC.glob at h
  split at h
  · assumption
  · cases h
theorem blt_gl {x : Str} (h : C.blt x = true) : C.names.lookup x = some .globalImplicit := by
  unfold CC.blt at h
  exact glob_gl (Bool.and_eq_true_iff.mp h).1
theorem star_of {e : Expr} {E' : E} {es : List Expr} {env : PySem.Env} (h : cE C n e = some E') : starEach (e :: es) env = (false, eval e env) :: starEach es env := by
  cases n with
  | zero => cases h
  | succ n => cases e <;> first | rfl | cases h
theorem swaps_of {e : Expr} {E' : E} {t : Option Expr} {l : Nat} {env : PySem.Env} (h : cE C n e = some E') : swapsWith e t l env = pure false := by
  cases n with
  | zero => cases h
  | succ n => cases e <;> first | rfl | cases h
theorem fold_of {e : Expr} {E' : E} {env : PySem.Env} (h : cE C n e = some E') : ∀ x, foldedSetIterable e env x = pure x := by
  intro x
  cases n with
  | zero => cases h
  | succ n => cases e <;> first | rfl | cases h
theorem super_of {o : Expr} {m : Str} {env : PySem.Env} {w : Sem Value} (h : noSuper o = true) : attributeBase o m env w = w := by
  cases o <;> try rfl
  rename_i f as ks p
  cases f <;> try rfl
  cases as <;> try rfl
  cases ks <;> first | rfl | cases h
theorem star_all : ∀ {es : List Expr} {Es : List E} {env : PySem.Env}, cEs (cE C n) es = some Es → ∀ p ∈ starEach es env, p.1 = false
  | [], _, env, _, p, hp => by cases hp
  | e :: es, Es, env, h, p, hp => by
    unfold cEs at h
    split at h
    · rename_i a ha
      split at h
      · rename_i as has
        rw [star_of ha] at hp
        rcases List.mem_cons.mp hp with rfl | hp
        · rfl
        · exact star_all has p hp
      · cases h
    · cases h
theorem back_any {es : List Expr} {Es : List E} {env : PySem.Env} {pos : Pos} (h : cEs (cE C n) es = some Es) : (backTo pos (starEach es env)).any (·.1) = false := by
  rw [List.any_eq_false]
  intro p hp
  unfold backTo at hp
  obtain ⟨q, hq, rfl⟩ := List.mem_map.mp hp
  simpa using star_all h q hq
theorem cEs_cons {es : List Expr} {e : Expr} {Es : List E} (h : cEs (cE C n) (e :: es) = some Es) : ∃ a as, cE C n e = some a ∧ cEs (cE C n) es = some as ∧ Es = a :: as := by
  unfold cEs at h
  split at h
  · rename_i a ha
    split at h
    · rename_i as has
      cases h
      exact ⟨a, as, ha, has, rfl⟩
    · cases h
  · cases h
end

section
variable {T : Tb} {n : Nat} {C : CC} {X : Cx} {W : XW}
theorem Good.gl (G : Good T n C X W) {x : Str} (h : C.names.lookup x = some .globalImplicit) : Gl X x := by
  show X.env.scope.names.lookup x = _
  rw [G.sc]; exact h
theorem Good.vis (G : Good T n C X W) {x : Str} (h : C.names.lookup x = some .local ∨ C.names.lookup x = some .cell ∨ C.names.lookup x = some .free) : Vis X.env.scope x := by
  unfold Vis
  rw [G.sc]; exact h
theorem Good.loc (G : Good T n C X W) {x : Str} (h : C.names.lookup x = some .local ∨ C.names.lookup x = some .cell) : Loc X.env.scope x := by
  unfold L2.Loc
  rw [G.sc]; exact h
theorem Good.mgN (G : Good T n C X W) {x : Str} (h : x ∈ bltNames) : X.mg x = none := by
  rw [← G.mg]; exact G.F.blt x h

/-! ### results -/
theorem post_o {α β γ : Type} {K : Fg} {ec : EC} {m : Mp} {k : Nat} {H : Hp} {o : Option γ} {st : Store} {g : γ → Store → R α} {rel : Rl α β} {Q : β → Hp → Prop}
    (p : Post K ec W m k H ((ofO o st).bind g) rel Q) : ∃ v, o = some v ∧ Post K ec W m k H (g v st) rel Q := by
  cases o with
  | none => exact p.elim
  | some v => exact ⟨v, rfl, p⟩
theorem post_bl {K : Fg} {ec : EC} {m : Mp} {st : Store} {H : Hp} {o : Option Bool} {Q : V → Hp → Prop} (R : RelS K H m st) (p : Post K ec W m st.length H (ofO (o.map fun k => Val.d (.bl k)) st) (RV K) Q) : ∃ k, o = some k ∧ Q (.bl k) H := by
  cases o with
  | none => exact p.elim
  | some k => exact ⟨k, rfl, post_data R p (.bl k)⟩
theorem post_tt {K : Fg} {ec : EC} {m : Mp} {st : Store} {H : Hp} {o : Option Bool} {Q : Bool → Hp → Prop} (R : RelS K H m st) (p : Post K ec W m st.length H (ofO o st) eqRel Q) : ∃ k, o = some k ∧ Q k H := by
  cases o with
  | none => exact p.elim
  | some k => exact ⟨k, rfl, p m H k Aft.refl R rfl⟩

/-- from an expression's reading to what follows its value -/
theorem rd_step {γ δ : Type} {K : Fg} {ec : EC} {f : Env → Store → R Val} {env : Env} {st : Store} {m : Mp} {σ : L2.St} {H : Hp} {g : Val → Store → R γ} {rel : Rl γ δ} {Q' : δ → Hp → Prop} {Q : V → Hp → Prop}
    (r : Rel K m env st σ H) (p : Post K ec W m st.length H ((f env st).bind g) rel Q')
    (h : ∀ m1 st1 H1 v w, Rel K m1 env st1 σ H1 → Aft m st.length H m1 st1.length H1 → RV K H1 m1 st1.length v w → Post K ec W m1 st1.length H1 (g w st1) rel Q' → Q v H1) : rd K ec W f σ H Q :=
  ⟨env, st, m, r, (Post.bind (rel1 := RV K) p).imp fun v H1 ⟨m1, st1, w, a, s, rv, p1⟩ => h m1 st1 H1 v w (r.aft a s) a rv p1⟩
theorem rdA_step {γ δ : Type} {K : Fg} {ec : EC} {f : Env → Store → R (List Val)} {env : Env} {st : Store} {m : Mp} {σ : L2.St} {H : Hp} {g : List Val → Store → R γ} {rel : Rl γ δ} {Q' : δ → Hp → Prop} {Q : List V → Hp → Prop}
    (r : Rel K m env st σ H) (p : Post K ec W m st.length H ((f env st).bind g) rel Q')
    (h : ∀ m1 st1 H1 v w, Rel K m1 env st1 σ H1 → Aft m st.length H m1 st1.length H1 → RVs K H1 m1 st1.length v w → Post K ec W m1 st1.length H1 (g w st1) rel Q' → Q v H1) : rdA K ec W f σ H Q :=
  ⟨env, st, m, r, (Post.bind (rel1 := RVs K) p).imp fun v H1 ⟨m1, st1, w, a, s, rv, p1⟩ => h m1 st1 H1 v w (r.aft a s) a rv p1⟩
theorem rdT_step {γ δ : Type} {K : Fg} {ec : EC} {f : Env → Store → R Bool} {env : Env} {st : Store} {m : Mp} {σ : L2.St} {H : Hp} {g : Bool → Store → R γ} {rel : Rl γ δ} {Q' : δ → Hp → Prop} {Q : Bool → Hp → Prop}
    (r : Rel K m env st σ H) (p : Post K ec W m st.length H ((f env st).bind g) rel Q')
    (h : ∀ m1 st1 H1 w, Rel K m1 env st1 σ H1 → Aft m st.length H m1 st1.length H1 → Post K ec W m1 st1.length H1 (g w st1) rel Q' → Q w H1) : rdT K ec W f σ H Q :=
  ⟨env, st, m, r, (Post.bind (rel1 := eqRel) p).imp fun v H1 ⟨m1, st1, w, a, s, rv, p1⟩ => by
    obtain rfl : v = w := rv
    exact h m1 st1 H1 v (r.aft a s) a p1⟩

/-- an argument list -/
theorem pa_of {cf : CF} : ∀ {k : Nat} {es : List Expr} {Es : List E}, cEs (cE C k) es = some Es → (∀ e E', cE C k e = some E' → PE X e (rd X.K T.ec W (ev cf E'))) → PA X es (rdA X.K T.ec W (evs cf Es))
  | k, [], Es, h, ih => by
    cases h
    exact pa_imp pa_nil fun σ H Q ⟨env, st, m, r, p⟩ => p m H [] Aft.refl r.s .nil
  | k, e :: es, Es, h, ih => by
    obtain ⟨a, as, ha, has, rfl⟩ := cEs_cons h
    refine pa_imp (pa_cons (ih e a ha) (pa_of has ih) (star_of ha)) fun σ H Q ⟨env, st, m, r, p⟩ => ?_
    refine rd_step r (show Post X.K T.ec W m st.length H ((ev cf a env st).bind fun x st => (evs cf as env st).bind fun xs st => .ok (x :: xs) st) (RVs X.K) Q from p) fun m1 st1 H1 v w r1 a1 rv p1 => ?_
    refine rdA_step r1 p1 fun m2 st2 H2 vs ws r2 a2 rvs p2 => ?_
    exact p2 m2 H2 (v :: vs) Aft.refl r2.s (.cons (rv.aft a2) rvs)
theorem callN_len {P : List Fn} {k f : Nat} {ws : List Val} {st : Store} {K : Fg} {ec : EC} {m : Mp} {j : Nat} {H : Hp} {Q : V → Hp → Prop} (p : Post K ec W m j H (callN P k f ws st) (RV K) Q) : ∃ F, P[f]? = some F ∧ ws.length = F.np := by
  cases k with
  | zero => exact p.elim
  | succ k =>
    unfold callN at p
    cases e : P[f]? with
    | none => rw [e] at p; exact p.elim
    | some F =>
      rw [e] at p
      refine ⟨F, rfl, ?_⟩
      simp only [framed] at p
      split at p
      · rename_i args' st' e1 e2
        have hl : args'.length = ws.length := by
          have : ∀ (l : List Val) (f : Val → Option Val) (l' : List Val), l.mapM f = some l' → l'.length = l.length := by
            intro l f
            induction l with
            | nil => intro l' h; have : l' = [] := by simpa using h.symm
                     subst this; rfl
            | cons x xs ih =>
              intro l' h
              rw [List.mapM_cons] at h
              cases q : f x with
              | none => rw [q] at h; cases h
              | some y =>
                cases q2 : xs.mapM f with
                | none => rw [q, q2] at h; cases h
                | some ys =>
                  rw [q, q2] at h
                  have : l' = y :: ys := by simpa using h.symm
                  subst this
                  simp [ih ys q2]
          exact this _ _ _ e1
        by_cases hn : args'.length = F.np
        · rw [← hl]; exact hn
        · have : runF (callN P k) F args' st' = .bad := by
            unfold runF
            rw [if_neg hn]
          rw [this] at p
          exact p.elim
      · exact p.elim

/-- the callee's promise, from the caller's state -/
theorem Good.toSp (G : Good T n C X W) {f : Nat} {vs : List V} {ws : List Val} {st : Store} {m : Mp} {H : Hp} {Q : V → Hp → Prop} (R : RelS X.K H m st) (rvs : RVs X.K H m st.length vs ws)
    (p : Post X.K T.ec W m st.length H (callN T.prog n f ws st) (RV X.K) Q) : spF T n f vs H Q W := by
  obtain ⟨F, hF, hl⟩ := callN_len p
  have e1 := G.F.np f F hF
  refine ⟨by rw [RVs.length rvs, hl, e1], m, st, ws, ?_, ?_, ?_⟩
  · rw [G.K]; exact R
  · rw [G.K]; exact rvs
  · rw [G.K]; exact p

/-! ### truth of compound tests -/
theorem tr_and {cf : CF} {a b : E} {env : Env} {st : Store} : tr cf (.and a b) env st = (tr cf a env st).bind fun k st => if k then tr cf b env st else .ok false st := by
  unfold tr
  simp only [ev]
  cases ev cf a env st with
  | ok x st1 =>
    simp only [R.bind]
    cases e : truthy st1 x with
    | none => rfl
    | some k =>
      cases k with
      | true => rfl
      | false => simp [ofO, R.bind, e]
  | exc _ _ => rfl
  | bad => rfl
theorem tr_or {cf : CF} {a b : E} {env : Env} {st : Store} : tr cf (.or a b) env st = (tr cf a env st).bind fun k st => if k then .ok true st else tr cf b env st := by
  unfold tr
  simp only [ev]
  cases ev cf a env st with
  | ok x st1 =>
    simp only [R.bind]
    cases e : truthy st1 x with
    | none => rfl
    | some k =>
      cases k with
      | false => rfl
      | true => simp [ofO, R.bind, e]
  | exc _ _ => rfl
  | bad => rfl
theorem tr_not {cf : CF} {a : E} {env : Env} {st : Store} : tr cf (.not a) env st = (tr cf a env st).bind fun k st => .ok (!k) st := by
  unfold tr
  simp only [ev]
  cases ev cf a env st with
  | ok x st1 =>
    simp only [R.bind]
    cases e : truthy st1 x with
    | none => rfl
    | some k => rfl
  | exc _ _ => rfl
  | bad => rfl
theorem tr_ite {cf : CF} {t a b : E} {env : Env} {st : Store} : tr cf (.ite t a b) env st = (tr cf t env st).bind fun k st => if k then tr cf a env st else tr cf b env st := by
  unfold tr
  simp only [ev]
  cases ev cf t env st with
  | ok x st1 =>
    simp only [R.bind]
    cases e : truthy st1 x with
    | none => rfl
    | some k => cases k <;> rfl
  | exc _ _ => rfl
  | bad => rfl
end

/-! ### and, or -/
section
variable {T : Tb} {n : Nat} {C : CC} {X : Cx} {W : XW} {cf : CF} {pos : Pos}
theorem cBool_cons {k : E → E → E} {f : Expr → Option E} {e e2 : Expr} {es : List Expr} {E' : E} (h : cBool k f (e :: e2 :: es) = some E') : ∃ a b, f e = some a ∧ cBool k f (e2 :: es) = some b ∧ E' = k a b := by
  unfold cBool at h
  simp only at h
  split at h
  · rename_i a ha
    split at h
    · rename_i b hb
      cases h
      exact ⟨a, b, ha, hb, rfl⟩
    · cases h
  · cases h
theorem pe_bool_and {f : Expr → Option E} (ih : ∀ e E', f e = some E' → PE X e (rd X.K T.ec W (ev cf E'))) : ∀ (vs : List Expr) (E' : E), cBool .and f vs = some E' → PE X (.BoolOp .And vs pos) (rd X.K T.ec W (ev cf E'))
  | [], _, h => by cases h
  | [e], E', h => pe_one (ih e E' h)
  | e :: e2 :: es, E', h => by
    obtain ⟨a, b, ha, hb, rfl⟩ := cBool_cons h
    refine pe_imp (pe_andT (ih e a ha) (pe_bool_and ih (e2 :: es) b hb)) fun σ H Q ⟨env, st, m, r, p⟩ => ?_
    rw [ev] at p
    refine rd_step r p fun m1 st1 H1 v w r1 a1 rv p1 => ?_
    obtain ⟨k, e, p2⟩ := post_o p1
    refine ⟨k, truthy_v r1.s rv e, ?_⟩
    cases k with
    | true => exact iteT ⟨env, st1, m1, r1, p2⟩
    | false => exact iteF (post_val r1.s p2 rv)
theorem pe_bool_or {f : Expr → Option E} (ih : ∀ e E', f e = some E' → PE X e (rd X.K T.ec W (ev cf E'))) : ∀ (vs : List Expr) (E' : E), cBool .or f vs = some E' → PE X (.BoolOp .Or vs pos) (rd X.K T.ec W (ev cf E'))
  | [], _, h => by cases h
  | [e], E', h => pe_one (ih e E' h)
  | e :: e2 :: es, E', h => by
    obtain ⟨a, b, ha, hb, rfl⟩ := cBool_cons h
    refine pe_imp (pe_orT (ih e a ha) (pe_bool_or ih (e2 :: es) b hb)) fun σ H Q ⟨env, st, m, r, p⟩ => ?_
    rw [ev] at p
    refine rd_step r p fun m1 st1 H1 v w r1 a1 rv p1 => ?_
    obtain ⟨k, e, p2⟩ := post_o p1
    refine ⟨k, truthy_v r1.s rv e, ?_⟩
    cases k with
    | true => exact iteT (post_val r1.s p2 rv)
    | false => exact iteF ⟨env, st1, m1, r1, p2⟩
theorem pw_bool_and {f : Expr → Option E} (ih : ∀ e E', f e = some E' → PT X e (rdT X.K T.ec W (tr cf E'))) : ∀ (vs : List Expr) (E' : E), cBool .and f vs = some E' → PW X (.BoolOp .And vs pos) (rdT X.K T.ec W (tr cf E'))
  | [], _, h => by cases h
  | [e], E', h => pw_and1 (ih e E' h)
  | e :: e2 :: es, E', h => by
    obtain ⟨a, b, ha, hb, rfl⟩ := cBool_cons h
    refine pw_imp (pw_and (ih e a ha) (pw_bool_and ih (e2 :: es) b hb)) fun σ H Q ⟨env, st, m, r, p⟩ => ?_
    rw [tr_and] at p
    refine rdT_step r p fun m1 st1 H1 w r1 a1 p1 => ?_
    cases w with
    | true => exact iteT ⟨env, st1, m1, r1, p1⟩
    | false => exact iteF (p1 m1 H1 false Aft.refl r1.s rfl)
theorem pw_bool_or {f : Expr → Option E} (ih : ∀ e E', f e = some E' → PT X e (rdT X.K T.ec W (tr cf E'))) : ∀ (vs : List Expr) (E' : E), cBool .or f vs = some E' → PW X (.BoolOp .Or vs pos) (rdT X.K T.ec W (tr cf E'))
  | [], _, h => by cases h
  | [e], E', h => pw_or1 (ih e E' h)
  | e :: e2 :: es, E', h => by
    obtain ⟨a, b, ha, hb, rfl⟩ := cBool_cons h
    refine pw_imp (pw_or (ih e a ha) (pw_bool_or ih (e2 :: es) b hb)) fun σ H Q ⟨env, st, m, r, p⟩ => ?_
    rw [tr_or] at p
    refine rdT_step r p fun m1 st1 H1 w r1 a1 p1 => ?_
    cases w with
    | true => exact iteT (p1 m1 H1 true Aft.refl r1.s rfl)
    | false => exact iteF ⟨env, st1, m1, r1, p1⟩
/-- a if t else b as a test -/
theorem pt_ifExp {t a b : Expr} {tt ta tb : TT} (ht : PT X t tt) (ha : PT X a ta) (hb : PT X b tb) : PT X (.IfExp t a b pos) (fun σ H Q => tt σ H fun k H1 => if k = true then ta σ H1 Q else tb σ H1 Q) := by
  refine ⟨fun pins s σ H Q I h => ?_⟩
  rw [PySem.isTrue]
  refine wpAny_bind (thn (ht.run pins s σ H _ I h) fun k s1 ⟨H1, I1, q1⟩ => ?_)
  cases k with
  | true =>
    rw [if_pos rfl] at q1 ⊢
    exact ha.run pins s1 σ H1 Q I1 q1
  | false =>
    rw [if_neg Bool.false_ne_true] at q1 ⊢
    exact hb.run pins s1 σ H1 Q I1 q1
end
end PI
/-! SND6: every compiled expression is sound. -/
namespace PI
open PySem PySem.Spec PyProof.Rows L2
section
variable {T : Tb} {n : Nat} {C : CC} {X : Cx} {W : XW} {pos : Pos}

theorem cmp_id (o : CmpOp) : cmpOf (cmpIs o) = o := by cases o <;> rfl
theorem op_id {o : Operator} {o' : Op2} (h : opIs o = some o') : opOf o' = o := by
  cases o <;> first | (cases h; rfl) | cases h
theorem hu65 (G : Good T n C X W) : X.A.units + 65 < cLine := by have := G.hr.un; omega
theorem mark_of {o : CmpOp} {b : Expr} (h : notSet b = true) : behindInMarks o b = false := by
  cases b <;> first | rfl | cases h
theorem plain_of {b : Expr} (h : notSlice b = true) : PlainIx b := by
  intro o i
  cases b <;> first | rfl | cases h
/-- a test of a plain expression -/
theorem pt_plain {e : Expr} {cf : CF} {E' : E} (he : PE X e (rd X.K T.ec W (ev cf E'))) (hp : ∀ whole, PySem.isTrue e X.env whole = (do let v ← whole; standAt e.pos; holding [v] (PySem.truthy v))) : PT X e (rdT X.K T.ec W (tr cf E')) := by
  refine pt_imp (pt_truth he hp) fun σ H Q ⟨env, st, m, r, p⟩ => ?_
  refine rd_step r (show Post X.K T.ec W m st.length H ((ev cf E' env st).bind fun x st => ofO (truthy st x) st) eqRel Q from p) fun m1 st1 H1 v w r1 a1 rv p1 => ?_
  obtain ⟨k, e1, q⟩ := post_tt r1.s p1
  exact ⟨k, truthy_v r1.s rv e1, q⟩

/-- a part of a slice -/
theorem po_of {cf : CF} {k : Nat} (ih : ∀ e E', cE C k e = some E' → PE X e (rd X.K T.ec W (ev cf E'))) {o : Option Expr} {O : Option E} (h : cO (cE C k) o = some O) :
    ∃ t : TO, PO X o t ∧ ∀ (γ δ : Type) (env : Env) (st : Store) (m : Mp) (σ : L2.St) (H : Hp) (g : Option Val → Store → R γ) (rel : Rl γ δ) (Q' : δ → Hp → Prop) (Q : Option Int → Hp → Prop),
      Rel X.K m env st σ H → Post X.K T.ec W m st.length H ((evo cf O env st).bind g) rel Q' → (∀ m1 st1 H1 w, Post X.K T.ec W m1 st1.length H1 (g w st1) rel Q' → (optInt w).isSome = true) →
      (∀ m1 st1 H1 w i, Rel X.K m1 env st1 σ H1 → Aft m st.length H m1 st1.length H1 → optInt w = some i → Post X.K T.ec W m1 st1.length H1 (g w st1) rel Q' → Q i H1) → t σ H Q := by
  cases o with
  | none =>
    cases h
    refine ⟨_, po_none, fun γ δ env st m σ H g rel Q' Q r p hb hq => ?_⟩
    exact hq m st H none none r Aft.refl rfl p
  | some e =>
    unfold cO at h
    simp only at h
    split at h
    · rename_i a ha
      cases h
      refine ⟨_, po_some (ih e a ha), fun γ δ env st m σ H g rel Q' Q r p hb hq => ?_⟩
      have p' : Post X.K T.ec W m st.length H ((ev cf a env st).bind fun x st => g (some x) st) rel Q' := by
        have e1 : (evo cf (some a) env st).bind g = (ev cf a env st).bind fun x st => g (some x) st := by
          rw [evo]
          cases ev cf a env st <;> rfl
        rw [← e1]; exact p
      refine rd_step r p' fun m1 st1 H1 v w r1 a1 rv p1 => ?_
      have hs := hb m1 st1 H1 (some w) p1
      cases w with
      | loc l => cases hs
      | d d =>
        cases d with
        | int i => exact ⟨i, rd_int rv, hq m1 st1 H1 (some (.d (.int i))) (some i) r1 a1 rfl p1⟩
        | _ => cases hs
    · cases h

theorem slice_bad {x : Val} {l h : Option Val} {st : Store} (z : slice x l h st ≠ .bad) : (optInt l).isSome = true ∧ (optInt h).isSome = true := by
  unfold slice at z
  cases e1 : optInt l with
  | none => rw [e1] at z; exact absurd rfl z
  | some _ =>
    cases e2 : optInt h with
    | none => rw [e1, e2] at z; exact absurd rfl z
    | some _ => exact ⟨rfl, rfl⟩
theorem bind_bad {α β : Type} {r : R α} {f : α → Store → R β} (h : r.bind f ≠ .bad) : ∀ a st, r = .ok a st → f a st ≠ .bad := by
  rintro a st rfl
  exact h
theorem bf_name {x : Str} {f : BF} (h : bfOf x = some f) : (x = "len" ∧ f = .len) ∨ (x = "int" ∧ f = .int) ∨ (x = "tuple" ∧ f = .tuple) ∨ (x = "list" ∧ f = .list) := by
  unfold bfOf at h
  split at h
  · cases h; rename_i e; exact .inl ⟨e, rfl⟩
  · split at h
    · cases h; rename_i e; exact .inr (.inl ⟨e, rfl⟩)
    · split at h
      · cases h; rename_i e; exact .inr (.inr (.inl ⟨e, rfl⟩))
      · split at h
        · cases h; rename_i e; exact .inr (.inr (.inr ⟨e, rfl⟩))
        · cases h
theorem ty_name {x : Str} {t : Ty} (h : tyOf x = some t) : x = Str.ofString (tyName t) := by
  unfold tyOf at h
  split at h
  · cases h; assumption
  · split at h
    · cases h; assumption
    · split at h
      · cases h; assumption
      · split at h
        · cases h; assumption
        · split at h
          · cases h; assumption
          · cases h
theorem bm_name {x : Str} {f : BM} (h : bmOf x = some f) : x = "append" ∧ f = .append := by
  unfold bmOf at h
  split at h
  · cases h; rename_i e; exact ⟨e, rfl⟩
  · cases h
theorem boot_len' : bootBuiltins ("len" : Str) = some (.builtin "len") := by decide +kernel
theorem boot_int' : bootBuiltins ("int" : Str) = some (.type "int") := by decide +kernel
theorem boot_tuple' : bootBuiltins ("tuple" : Str) = some (.type "tuple") := by decide +kernel
theorem boot_list' : bootBuiltins ("list" : Str) = some (.type "list") := by decide +kernel
theorem boot_isi' : bootBuiltins ("isinstance" : Str) = some (.builtin "isinstance") := by decide +kernel
theorem ty_boot (t : Ty) : bootBuiltins (Str.ofString (tyName t)) = some (.type (tyName t)) := by cases t <;> decide +kernel
theorem ty_mem (t : Ty) : Str.ofString (tyName t) ∈ bltNames := by cases t <;> decide +kernel
theorem ty_ne (t : Ty) : Str.ofString (tyName t) ≠ "__name__" ∧ (Str.ofString (tyName t) == ("__debug__" : Str)) = false := by cases t <;> decide +kernel

/-- a call of a built-in -/
theorem pe_bcall (G : Good T n C X W) {cf : CF} {x : Str} {f : BF} {e : Expr} {es : List Expr} {Es : List E} {k : Nat} {p0 : Pos} (hx : C.names.lookup x = some .globalImplicit) (hf : bfOf x = some f) (hes : cEs (cE C k) (e :: es) = some Es)
    (ha : PA X (e :: es) (rdA X.K T.ec W (evs cf Es))) : PE X (.Call (.Name x p0) (e :: es) [] pos) (rd X.K T.ec W (ev cf (.bcall f Es))) := by
  obtain ⟨a, as, h1, h2, rfl⟩ := cEs_cons hes
  have fin : ∀ (σ : L2.St) (H : Hp) (Q : VK), rd X.K T.ec W (ev cf (.bcall f (a :: as))) σ H Q → tCB (rB X.K T.ec W f) (rdA X.K T.ec W (evs cf (a :: as))) σ H Q := by
    rintro σ H Q ⟨env, st, m, r, p⟩
    rw [ev] at p
    exact rdA_step r p fun m1 st1 H1 vs ws r1 a1 rvs p1 => ⟨m1, st1, ws, r1.s, rvs, p1⟩
  rcases bf_name hf with ⟨rfl, rfl⟩ | ⟨rfl, rfl⟩ | ⟨rfl, rfl⟩ | ⟨rfl, rfl⟩
  · exact pe_imp (pe_callB cr_len (G.gl hx) (G.mgN (by decide +kernel)) boot_len' ha (by decide +kernel) (by decide +kernel) (star_of h1) (back_any h2)) fin
  · exact pe_imp (pe_callTy cr_int (G.gl hx) (G.mgN (by decide +kernel)) boot_int' ha (by decide +kernel) (by decide +kernel) (star_of h1) (back_any h2)) fin
  · exact pe_imp (pe_callTy cr_tuple (G.gl hx) (G.mgN (by decide +kernel)) boot_tuple' ha (by decide +kernel) (by decide +kernel) (star_of h1) (back_any h2)) fin
  · exact pe_imp (pe_callTy cr_list (G.gl hx) (G.mgN (by decide +kernel)) boot_list' ha (by decide +kernel) (by decide +kernel) (star_of h1) (back_any h2)) fin
/-- isinstance(e, T) -/
theorem pe_isi (G : Good T n C X W) {cf : CF} {t : Ty} {e : Expr} {a : E} {k : Nat} {p0 p1 : Pos} (hx : C.names.lookup ("isinstance" : Str) = some .globalImplicit) (ht : C.names.lookup (Str.ofString (tyName t)) = some .globalImplicit) (he : cE C k e = some a)
    (ih : PE X e (rd X.K T.ec W (ev cf a))) : PE X (.Call (.Name "isinstance" p0) [e, .Name (Str.ofString (tyName t)) p1] [] pos) (rd X.K T.ec W (ev cf (.isi a t))) := by
  have hT : PE X (.Name (Str.ofString (tyName t)) p1) (tC (.ty (tyName t))) := pe_bltn (G.gl ht) (G.mgN (ty_mem t)) (ty_boot t) rfl (ty_ne t).1 (ty_ne t).2
  have ha : PA X [e, .Name (Str.ofString (tyName t)) p1] (tCons (rd X.K T.ec W (ev cf a)) (tCons (tC (.ty (tyName t))) tNil)) := pa_cons ih (pa_cons hT pa_nil) (star_of he)
  refine pe_imp (pe_callB call_isi (G.gl hx) (G.mgN (by decide +kernel)) boot_isi' ha (by decide +kernel) (by decide +kernel) (star_of he)) fun σ H Q ⟨env, st, m, r, p⟩ => ?_
  rw [ev] at p
  refine rd_step r p fun m1 st1 H1 v w r1 a1 rv p1 => ?_
  obtain ⟨b, e1, q⟩ := post_bl r1.s p1
  obtain ⟨u, ty, kit⟩ := isTy_v r1.s rv e1
  exact ⟨v, .ty (tyName t), u, .type (tyName t), b, rfl, .ty _, ty, kit, q⟩
/-- a call of a def -/
theorem pe_fcall (G : Good T n C X W) {x : Str} {f : Nat} {e : Expr} {es : List Expr} {Es : List E} {k : Nat} {p0 : Pos} (hx : C.names.lookup x = some .globalImplicit) (hf : C.G.lookup x = some (.fn f)) (hes : cEs (cE C k) (e :: es) = some Es)
    (ha : PA X (e :: es) (rdA X.K T.ec W (evs (callN T.prog n) Es))) : PE X (.Call (.Name x p0) (e :: es) [] pos) (rd X.K T.ec W (ev (callN T.prog n) (.call f Es))) := by
  obtain ⟨a, as, h1, h2, rfl⟩ := cEs_cons hes
  rw [G.G] at hf
  obtain ⟨g1, g2, g3, F, hF⟩ := G.F.fn x f hf
  rw [G.mg] at g1
  rw [G.K] at g2 g3
  have ok := G.ok f F hF
  rw [G.prog, G.w, G.K, G.mg, G.base] at ok
  refine pe_imp (pe_call (E := W) ok G.hr (G.gl hx) g1 g2 g3 .nil (passes_call G.tk fun _ _ _ _ z => z) ha (G.F.nm x _ hf) (star_of h1) (back_any h2)) fun σ H Q ⟨env, st, m, r, p⟩ => ?_
  rw [ev] at p
  refine rdA_step r p fun m1 st1 H1 vs ws r1 a1 rvs p1 => ?_
  rw [List.append_nil]
  exact G.toSp r1.s rvs p1
/-- a call of a def without arguments -/
theorem pe_fcall0 (G : Good T n C X W) {x : Str} {f : Nat} {p0 : Pos} (hx : C.names.lookup x = some .globalImplicit) (hf : C.G.lookup x = some (.fn f)) :
    PE X (.Call (.Name x p0) [] [] pos) (rd X.K T.ec W (ev (callN T.prog n) (.call f []))) := by
  rw [G.G] at hf
  obtain ⟨g1, g2, g3, F, hF⟩ := G.F.fn x f hf
  rw [G.mg] at g1
  rw [G.K] at g2 g3
  have ok := G.ok f F hF
  rw [G.prog, G.w, G.K, G.mg, G.base] at ok
  refine pe_imp (pe_call0 (E := W) ok G.hr (G.gl hx) g1 g2 g3 .nil (passes_call G.tk fun _ _ _ _ z => z) (G.F.nm x _ hf)) fun σ H Q ⟨env, st, m, r, p⟩ => ?_
  rw [ev, evs] at p
  exact G.toSp (vs := []) (ws := []) r.s .nil p

/-- THE EXPRESSIONS -/
theorem expr_ok (G : Good T n C X W) : ∀ (k : Nat) (e : Expr) (E' : E), cE C k e = some E' → PE X e (rd X.K T.ec W (ev (callN T.prog n) E')) ∧ PT X e (rdT X.K T.ec W (tr (callN T.prog n) E')) := by
  intro k
  induction k with
  | zero => intro e E' h; cases h
  | succ k ihk =>
    have ih : ∀ e E', cE C k e = some E' → PE X e (rd X.K T.ec W (ev (callN T.prog n) E')) := fun e E' h => (ihk e E' h).1
    have iht : ∀ e E', cE C k e = some E' → PT X e (rdT X.K T.ec W (tr (callN T.prog n) E')) := fun e E' h => (ihk e E' h).2
    intro e E' h
    have hu := hu65 G
    cases e with
    | Constant c j p0 =>
      simp only [cE] at h
      obtain ⟨d, hd, rfl⟩ := Option.map_eq_some_iff.mp h
      have main : PE X (.Constant c j p0) (rd X.K T.ec W (ev (callN T.prog n) (.c d))) := by
        cases c with
        | none => cases hd; exact pe_imp pe_non fun σ H Q ⟨env, st, m, r, p⟩ => post_data r.s p .non
        | bool b => cases hd; exact pe_imp pe_bl fun σ H Q ⟨env, st, m, r, p⟩ => post_data r.s p (.bl b)
        | int b => cases hd; exact pe_imp pe_int fun σ H Q ⟨env, st, m, r, p⟩ => post_data r.s p (.int b)
        | str z =>
          simp only [cConst] at hd
          split at hd
          · rename_i hz
            cases hd
            obtain ⟨h1, h2⟩ := Bool.and_eq_true_iff.mp hz
            have h3 := of_decide_eq_true h2
            refine pe_imp pe_str fun σ H Q ⟨env, st, m, r, p⟩ => post_data r.s p (.str z h1 ?_)
            have e2 : sizeLine = 16777216 := rfl
            show z.cps.size ≤ sizeLine
            omega
          · cases hd
        | _ => cases hd
      exact ⟨main, pt_plain main fun _ => rfl⟩
    | Name x p0 =>
      simp only [cE] at h
      have main : PE X (.Name x p0) (rd X.K T.ec W (ev (callN T.prog n) E')) := by
        split at h
        · rename_i i hi
          cases h
          obtain ⟨h1, h2⟩ := slot_vis hi
          obtain ⟨n1, n2⟩ := G.nm x (List.mem_of_getElem? h1)
          refine pe_imp (pe_var (by rw [G.N]; exact h1) (G.vis h2) n1 n2) fun σ H Q ⟨env, st, m, r, p⟩ => ?_
          rw [ev] at p
          split at p
          · rename_i w hw
            obtain ⟨v, q1, q2⟩ := r.e i w hw
            exact ⟨v, q1, post_val r.s p q2⟩
          · exact p.elim
        · split at h
          · rename_i hg
            split at h
            · rename_i d hd
              cases h
              rw [G.G] at hd
              obtain ⟨v, u, q1, q2, q3⟩ := G.F.con x d hd
              rw [G.mg] at q1
              refine pe_imp (pe_glob (G.gl (glob_gl hg)) q1 q2 (G.F.nm x _ hd)) fun σ H Q ⟨env, st, m, r, p⟩ => post_data r.s p ?_
              rw [← G.K]; exact q3 _ _
            · cases h
          · cases h
      exact ⟨main, pt_plain main fun _ => rfl⟩
    | BinOp a o b p0 =>
      simp only [cE] at h
      split at h
      · rename_i o' a' b' ho ha hb
        cases h
        have main : PE X (.BinOp a o b p0) (rd X.K T.ec W (ev (callN T.prog n) (.bin o' a' b'))) := by
          rw [← op_id ho]
          refine pe_imp (pe_op (op_bin (ec := T.ec) (W := W) o') (ih a a' ha) (ih b b' hb)) fun σ H Q ⟨env, st, m, r, p⟩ => ?_
          rw [ev] at p
          exact rd_step r p fun m1 st1 H1 v w r1 a1 rv p1 => rd_step r1 p1 fun m2 st2 H2 v2 w2 r2 a2 rv2 p2 => ⟨m2, st2, w, w2, r2.s, rv.aft a2, rv2, p2⟩
        exact ⟨main, pt_plain main fun _ => rfl⟩
      · cases h
    | UnaryOp o a p0 =>
      cases o with
      | Not =>
        simp only [cE] at h
        obtain ⟨a', ha, rfl⟩ := Option.map_eq_some_iff.mp h
        constructor
        · refine pe_imp (pe_notT (ih a a' ha)) fun σ H Q ⟨env, st, m, r, p⟩ => ?_
          rw [ev] at p
          refine rd_step r p fun m1 st1 H1 v w r1 a1 rv p1 => ?_
          obtain ⟨k1, e1, p2⟩ := post_o p1
          exact ⟨k1, truthy_v r1.s rv e1, post_data r1.s p2 (.bl _)⟩
        · refine pt_imp (pt_not (iht a a' ha)) fun σ H Q ⟨env, st, m, r, p⟩ => ?_
          rw [tr_not] at p
          exact rdT_step r p fun m1 st1 H1 w r1 a1 p1 => p1 m1 H1 (!w) Aft.refl r1.s rfl
      | USub =>
        cases a with
        | Constant c j p1 =>
          cases c with
          | int i =>
            cases h
            have main : PE X (.UnaryOp .USub (.Constant (.int i) j p1) p0) (rd X.K T.ec W (ev (callN T.prog n) (.c (.int (-i))))) :=
              pe_imp (pe_un un_neg pe_int) fun σ H Q ⟨env, st, m, r, p⟩ => ⟨i, rfl, post_data r.s p (.int _)⟩
            exact ⟨main, pt_plain main fun _ => rfl⟩
          | _ => cases h
        | _ => cases h
      | UAdd => cases h
      | Invert => cases h
    | IfExp t a b p0 =>
      simp only [cE] at h
      split at h
      · rename_i t' a' b' ht ha hb
        cases h
        constructor
        · refine pe_imp (pe_ifExp (iht t t' ht) (ih a a' ha) (ih b b' hb)) fun σ H Q ⟨env, st, m, r, p⟩ => ?_
          have p' : Post X.K T.ec W m st.length H ((tr (callN T.prog n) t' env st).bind fun k st => if k then ev (callN T.prog n) a' env st else ev (callN T.prog n) b' env st) (RV X.K) Q := by
            rw [ev] at p
            unfold tr
            cases e1 : ev (callN T.prog n) t' env st with
            | ok x st1 =>
              rw [e1] at p
              simp only [R.bind] at p ⊢
              cases e2 : PI.truthy st1 x with
              | none => rw [e2] at p; exact p
              | some k1 => rw [e2] at p; exact p
            | exc _ _ => rw [e1] at p; exact p
            | bad => rw [e1] at p; exact p
          refine rdT_step r p' fun m1 st1 H1 w r1 a1 p1 => ?_
          cases w with
          | true => exact iteT ⟨env, st1, m1, r1, p1⟩
          | false => exact iteF ⟨env, st1, m1, r1, p1⟩
        · refine pt_imp (pt_ifExp (iht t t' ht) (iht a a' ha) (iht b b' hb)) fun σ H Q ⟨env, st, m, r, p⟩ => ?_
          rw [tr_ite] at p
          refine rdT_step r p fun m1 st1 H1 w r1 a1 p1 => ?_
          cases w with
          | true => exact iteT ⟨env, st1, m1, r1, p1⟩
          | false => exact iteF ⟨env, st1, m1, r1, p1⟩
      · cases h
    | BoolOp o vs p0 =>
      cases o with
      | And => exact ⟨pe_bool_and ih vs E' h, (pw_bool_and iht vs E' h).pt⟩
      | Or => exact ⟨pe_bool_or ih vs E' h, (pw_bool_or iht vs E' h).pt⟩
    | Tuple es j p0 =>
      simp only [cE] at h
      obtain ⟨Es, hes, rfl⟩ := Option.map_eq_some_iff.mp h
      have main : PE X (.Tuple es j p0) (rd X.K T.ec W (ev (callN T.prog n) (.tup Es))) := by
        refine pe_imp (pe_tup (pa_of hes ih)) fun σ H Q ⟨env, st, m, r, p⟩ => ?_
        rw [ev] at p
        refine rdA_step r p fun m1 st1 H1 vs ws r1 a1 rvs p1 => ?_
        cases e1 : ws.mapM Val.data? with
        | none => simp only [e1] at p1; exact p1.elim
        | some ds =>
          simp only [e1] at p1
          by_cases hz : ds.length ≤ big
          · rw [if_pos hz] at p1
            have rds := rvs.datas e1
            exact ⟨by rw [rds.length]; exact hz, fun q hq => post_tup r1.s p1 rds hq⟩
          · rw [if_neg hz] at p1; exact p1.elim
      exact ⟨main, pt_plain main fun _ => rfl⟩
    | List es p0 =>
      simp only [cE] at h
      obtain ⟨Es, hes, rfl⟩ := Option.map_eq_some_iff.mp h
      have main : PE X (.List es p0) (rd X.K T.ec W (ev (callN T.prog n) (.lst Es))) := by
        refine pe_imp (pe_lst (pa_of hes ih)) fun σ H Q ⟨env, st, m, r, p⟩ => ?_
        rw [ev] at p
        refine rdA_step r p fun m1 st1 H1 vs ws r1 a1 rvs p1 => ?_
        by_cases hz : ws.length ≤ big
        · rw [if_pos hz] at p1
          exact ⟨by rw [RVs.length rvs]; exact hz, fun q hq => post_alloc r1.s p1 rvs hq⟩
        · rw [if_neg hz] at p1; exact p1.elim
      exact ⟨main, pt_plain main fun _ => rfl⟩
    | Compare a os bs p0 =>
      have pt_of : ∀ {t : TE} {cf : CF} {A : E}, PT X (.Compare a os bs p0) (tTest t) → (∀ σ H Q, rdT X.K T.ec W (tr cf A) σ H Q → t σ H (fun x H' => ∃ k, x = .bl k ∧ Q k H')) → PT X (.Compare a os bs p0) (rdT X.K T.ec W (tr cf A)) := fun h1 h2 => pt_imp h1 h2
      -- a result that is a truth value
      have tt : ∀ {m : Mp} {st : Store} {H : Hp} {o : Option Bool} {Q : Bool → Hp → Prop}, RelS X.K H m st → Post X.K T.ec W m st.length H ((ofO (o.map fun k => Val.d (.bl k)) st).bind fun x st => ofO (PI.truthy st x) st) eqRel Q → ∃ k, o = some k ∧ Q k H := by
        intro m st H o Q R p
        cases o with
        | none => exact p.elim
        | some k1 => exact ⟨k1, rfl, p m H k1 Aft.refl R rfl⟩
      cases os with
      | nil => cases h
      | cons o os =>
        cases os with
        | nil =>
          cases bs with
          | nil => cases h
          | cons b bs =>
            cases bs with
            | cons _ _ => cases h
            | nil =>
              simp only [cE] at h
              by_cases hm : notSet b = true
              · rw [if_pos hm] at h
                split at h
                · rename_i a' b' ha hb
                  cases h
                  have ho : OpR X (compareOp o) (rCmp X.K (cmpIs o)) := by
                    have := op_cmp (X := X) hu (cmpIs o)
                    rw [cmp_id] at this
                    exact this
                  constructor
                  · refine pe_imp (pe_cmpR ho (ih a a' ha) (ih b b' hb) (mark_of hm)) fun σ H Q ⟨env, st, m, r, p⟩ => ?_
                    rw [ev] at p
                    refine rd_step r p fun m1 st1 H1 v w r1 a1 rv p1 => rd_step r1 p1 fun m2 st2 H2 v2 w2 r2 a2 rv2 p2 => ?_
                    obtain ⟨k1, e1, q⟩ := post_bl r2.s p2
                    exact ⟨m2, st2, w, w2, k1, r2.s, rv.aft a2, rv2, e1, q⟩
                  · refine pt_of (pt_cmpR ho (ih a a' ha) (ih b b' hb) (mark_of hm)) fun σ H Q ⟨env, st, m, r, p⟩ => ?_
                    have p' : Post X.K T.ec W m st.length H ((ev (callN T.prog n) a' env st).bind fun x st => (ev (callN T.prog n) b' env st).bind fun y st => (ofO ((cmp (cmpIs o) x y st).map fun k => Val.d (.bl k)) st).bind fun x st => ofO (PI.truthy st x) st) eqRel Q := by
                      unfold tr at p
                      rw [ev] at p
                      cases e1 : ev (callN T.prog n) a' env st with
                      | ok x st1 =>
                        rw [e1] at p
                        simp only [R.bind] at p ⊢
                        cases e2 : ev (callN T.prog n) b' env st1 with
                        | ok y st2 => rw [e2] at p; exact p
                        | exc _ _ => rw [e2] at p; exact p
                        | bad => rw [e2] at p; exact p
                      | exc _ _ => rw [e1] at p; exact p
                      | bad => rw [e1] at p; exact p
                    refine rd_step r p' fun m1 st1 H1 v w r1 a1 rv p1 => rd_step r1 p1 fun m2 st2 H2 v2 w2 r2 a2 rv2 p2 => ?_
                    obtain ⟨k1, e1, q⟩ := tt r2.s p2
                    exact ⟨m2, st2, w, w2, k1, r2.s, rv.aft a2, rv2, e1, k1, rfl, q⟩
                · cases h
              · rw [if_neg hm] at h; cases h
        | cons o' os =>
          cases os with
          | cons _ _ => cases bs with
            | nil => cases h
            | cons b bs => cases bs with
              | nil => cases h
              | cons _ _ => cases h
          | nil =>
            cases bs with
            | nil => cases h
            | cons b bs =>
              cases bs with
              | nil => cases h
              | cons c bs =>
                cases bs with
                | cons _ _ => cases h
                | nil =>
                  simp only [cE] at h
                  by_cases hm : (notSet b && notSet c) = true
                  · rw [if_pos hm] at h
                    obtain ⟨hm1, hm2⟩ := Bool.and_eq_true_iff.mp hm
                    split at h
                    · rename_i a' b' c' ha hb hc
                      cases h
                      have ho : OpR X (compareOp o) (rCmp X.K (cmpIs o)) := by
                        have := op_cmp (X := X) hu (cmpIs o)
                        rw [cmp_id] at this
                        exact this
                      have ho' : OpR X (compareOp o') (rCmp X.K (cmpIs o')) := by
                        have := op_cmp (X := X) hu (cmpIs o')
                        rw [cmp_id] at this
                        exact this
                      have hl : lastMarks [o, o'] [b, c] = false := by
                        show lastMarks [o'] [c] = false
                        exact mark_of hm2
                      constructor
                      · refine pe_imp (pe_chain ho ho' (ih a a' ha) (ih b b' hb) (ih c c' hc) hl) fun σ H Q ⟨env, st, m, r, p⟩ => ?_
                        rw [ev] at p
                        refine rd_step r p fun m1 st1 H1 v w r1 a1 rv p1 => rd_step r1 p1 fun m2 st2 H2 v2 w2 r2 a2 rv2 p2 => ?_
                        obtain ⟨k1, e1, p3⟩ := post_o p2
                        refine ⟨m2, st2, w, w2, k1, r2.s, rv.aft a2, rv2, e1, k1, rfl, ?_⟩
                        cases k1 with
                        | true =>
                          rw [if_pos rfl] at p3 ⊢
                          refine rd_step r2 p3 fun m3 st3 H3 v3 w3 r3 a3 rv3 p4 => ?_
                          obtain ⟨k2, e2, q⟩ := post_bl r3.s p4
                          exact ⟨m3, st3, w2, w3, k2, r3.s, rv2.aft a3, rv3, e2, q⟩
                        | false =>
                          rw [if_neg Bool.false_ne_true] at p3 ⊢
                          exact post_data r2.s p3 (.bl false)
                      · refine pt_of (pt_chain ho ho' (ih a a' ha) (ih b b' hb) (ih c c' hc) hl) fun σ H Q ⟨env, st, m, r, p⟩ => ?_
                        have p' : Post X.K T.ec W m st.length H ((ev (callN T.prog n) a' env st).bind fun x st => (ev (callN T.prog n) b' env st).bind fun y st => (ofO (cmp (cmpIs o) x y st) st).bind fun k st =>
                            if k then ((ev (callN T.prog n) c' env st).bind fun z st => (ofO ((cmp (cmpIs o') y z st).map fun k => Val.d (.bl k)) st).bind fun x st => ofO (PI.truthy st x) st) else .ok false st) eqRel Q := by
                          unfold tr at p
                          rw [ev] at p
                          cases e1 : ev (callN T.prog n) a' env st with
                          | ok x st1 =>
                            rw [e1] at p
                            simp only [R.bind] at p ⊢
                            cases e2 : ev (callN T.prog n) b' env st1 with
                            | ok y st2 =>
                              rw [e2] at p
                              simp only at p ⊢
                              cases e3 : cmp (cmpIs o) x y st2 with
                              | none => rw [e3] at p; exact p
                              | some k1 =>
                                rw [e3] at p
                                cases k1 with
                                | false => exact p
                                | true =>
                                  simp only [ofO, if_true] at p ⊢
                                  cases e4 : ev (callN T.prog n) c' env st2 with
                                  | ok z st3 => rw [e4] at p; exact p
                                  | exc _ _ => rw [e4] at p; exact p
                                  | bad => rw [e4] at p; exact p
                            | exc _ _ => rw [e2] at p; exact p
                            | bad => rw [e2] at p; exact p
                          | exc _ _ => rw [e1] at p; exact p
                          | bad => rw [e1] at p; exact p
                        refine rd_step r p' fun m1 st1 H1 v w r1 a1 rv p1 => rd_step r1 p1 fun m2 st2 H2 v2 w2 r2 a2 rv2 p2 => ?_
                        obtain ⟨k1, e1, p3⟩ := post_o p2
                        refine ⟨m2, st2, w, w2, k1, r2.s, rv.aft a2, rv2, e1, k1, rfl, ?_⟩
                        cases k1 with
                        | true =>
                          rw [if_pos rfl] at p3 ⊢
                          refine rd_step r2 p3 fun m3 st3 H3 v3 w3 r3 a3 rv3 p4 => ?_
                          obtain ⟨k2, e2, q⟩ := tt r3.s p4
                          exact ⟨m3, st3, w2, w3, k2, r3.s, rv2.aft a3, rv3, e2, k2, rfl, q⟩
                        | false =>
                          rw [if_neg Bool.false_ne_true] at p3 ⊢
                          exact ⟨false, rfl, p3 m2 H2 false Aft.refl r2.s rfl⟩
                    · cases h
                  · rw [if_neg hm] at h; cases h
    | Subscript a i p0 =>
      have index_case : notSlice i = true → (match cE C k a, cE C k i with | some a, some i => some (E.ix a i) | _, _ => none) = some E' → PE X (.Subscript a i p0) (rd X.K T.ec W (ev (callN T.prog n) E')) := by
        intro hm h
        split at h
        · rename_i a' i' ha hi
          cases h
          refine pe_imp (pe_ix (ix_index (ec := T.ec) (W := W)) (ih a a' ha) (ih i i' hi) (plain_of hm)) fun σ H Q ⟨env, st, m, r, p⟩ => ?_
          rw [ev] at p
          exact rd_step r p fun m1 st1 H1 v w r1 a1 rv p1 => rd_step r1 p1 fun m2 st2 H2 v2 w2 r2 a2 rv2 p2 => ⟨m2, st2, w, w2, r2.s, rv.aft a2, rv2, p2⟩
        · cases h
      have main : PE X (.Subscript a i p0) (rd X.K T.ec W (ev (callN T.prog n) E')) := by
        cases i with
        | Slice lo hi st p1 =>
          cases st with
          | some _ => simp only [cE] at h; cases h
          | none =>
            simp only [cE] at h
            split at h
            · rename_i a' l' h' ha hl hh
              cases h
              obtain ⟨tl, pol, hol⟩ := po_of (T := T) (W := W) ih hl
              obtain ⟨th, poh, hoh⟩ := po_of (T := T) (W := W) ih hh
              refine pe_imp (pe_slice (sl_slice (ec := T.ec) (W := W)) (ih a a' ha) pol poh) fun σ H Q ⟨env, st, m, r, p⟩ => ?_
              rw [ev] at p
              refine rd_step r p fun m1 st1 H1 v w r1 a1 rv p1 => ?_
              refine hol _ _ env st1 m1 σ H1 _ _ _ _ r1 p1 (fun m2 st2 H2 w2 p2 => ?_) fun m2 st2 H2 w2 i2 r2 a2 e2 p2 => ?_
              · by_cases hz : (optInt w2).isSome = true
                · exact hz
                · rw [if_neg hz] at p2; exact p2.elim
              · rw [if_pos (by rw [e2]; rfl)] at p2
                refine hoh _ _ env st2 m2 σ H2 _ _ _ _ r2 p2 (fun m3 st3 H3 w3 p3 => ?_) fun m3 st3 H3 w3 i3 r3 a3 e3 p3 => ?_
                · exact (slice_bad fun z => by rw [z] at p3; exact p3).2
                · exact ⟨m3, st3, w, w2, w3, r3.s, (rv.aft a2).aft a3, e2, e3, p3⟩
            · cases h
        | _ =>
          simp only [cE, notSlice, if_true] at h
          exact index_case rfl h
      exact ⟨main, pt_plain main fun _ => rfl⟩
    | Call f as ks p0 =>
      cases ks with
      | cons _ _ => cases f <;> first | cases h | (cases as <;> cases h)
      | nil =>
        cases f with
        | Name x p1 =>
          cases as with
          | nil =>
            simp only [cE] at h
            split at h
            · rename_i hg
              split at h
              · rename_i f hf
                cases h
                have main := pe_fcall0 (pos := p0) (p0 := p1) G (glob_gl hg) hf
                exact ⟨main, pt_plain main fun _ => rfl⟩
              · cases h
            · cases h
          | cons a as =>
            simp only [cE] at h
            have main : PE X (.Call (.Name x p1) (a :: as) [] p0) (rd X.K T.ec W (ev (callN T.prog n) E')) := by
              split at h
              · rename_i hb
                split at h
                · rename_i hx
                  subst hx
                  split at h
                  · rename_i t p2
                    split at h
                    · rename_i ht
                      split at h
                      · rename_i a' t' ha htt
                        cases h
                        obtain rfl := ty_name htt
                        exact pe_isi G (blt_gl hb) (blt_gl ht) ha (ih a a' ha)
                      · cases h
                    · cases h
                  · cases h
                · split at h
                  · rename_i f Es hf hes
                    cases h
                    exact pe_bcall G (blt_gl hb) hf hes (pa_of hes ih)
                  · cases h
              · split at h
                · rename_i hg
                  split at h
                  · rename_i f hf
                    obtain ⟨Es, hes, rfl⟩ := Option.map_eq_some_iff.mp h
                    exact pe_fcall G (glob_gl hg) hf hes (pa_of hes ih)
                  · cases h
                · cases h
            exact ⟨main, pt_plain main fun _ => rfl⟩
        | Attribute o m ap =>
          cases as with
          | nil => cases h
          | cons a as =>
            simp only [cE] at h
            have main : PE X (.Call (.Attribute o m ap) (a :: as) [] p0) (rd X.K T.ec W (ev (callN T.prog n) E')) := by
              split at h
              · rename_i hc
                obtain ⟨hc1, hc2⟩ := Bool.and_eq_true_iff.mp hc
                obtain ⟨hc3, hc4⟩ := Bool.and_eq_true_iff.mp hc1
                split at h
                · rename_i m' o' Es hm ho hes
                  cases h
                  obtain ⟨rfl, rfl⟩ := bm_name hm
                  obtain ⟨a', as', h1, h2, rfl⟩ := cEs_cons hes
                  have hall : (backTo p0 (starEach (a :: as) X.env)).all (fun x => !x.1) = true := by
                    rw [List.all_eq_true]
                    intro q hq
                    unfold backTo at hq
                    obtain ⟨q', hq', rfl⟩ := List.mem_map.mp hq
                    have := star_all hes q' hq'
                    simpa using this
                  have hfew : ((backTo p0 (starEach (a :: as) X.env)).all (fun x => !x.1) && (backToKw p0 (keywordEach [] X.env)).all (fun x => x.1.isSome)
                      && decide ((a :: as).length + ([] : List Keyword).length + (if ([] : List Keyword).isEmpty then 0 else 1) < 30)) = true := by
                    rw [hall]
                    have hl : as.length < 20 := of_decide_eq_true hc2
                    have : (a :: as).length + ([] : List Keyword).length + (if ([] : List Keyword).isEmpty then 0 else 1) < 30 := by
                      simp only [List.length_cons, List.length_nil, List.isEmpty_nil, if_true]
                      omega
                    rw [decide_eq_true this]
                    rfl
                  refine pe_imp (pe_bm PySem.F.plainAttrs_list PySem.F.slot_list_append PySem.F.type_list_append (mr_append (ec := T.ec) (W := W)) (ih o o' ho) (pa_of hes ih) (super_of hc3) hfew hc4 (star_of h1) (back_any h2)) fun σ H Q ⟨env, st, m, r, p⟩ => ?_
                  rw [ev] at p
                  refine rd_step r p fun m1 st1 H1 v w r1 a1 rv p1 => ?_
                  by_cases hr : recv .append st1 w = true
                  · rw [if_pos hr] at p1
                    refine ⟨?_, rdA_step r1 p1 fun m2 st2 H2 vs ws r2 a2 rvs p2 => ⟨m2, st2, w, ws, r2.s, rv.aft a2, rvs, p2⟩⟩
                    cases w with
                    | d _ => cases hr
                    | loc l =>
                      obtain ⟨q1, rfl⟩ := rv
                      simp only [recv] at hr
                      cases e : st1[l]? with
                      | none => rw [e] at hr; cases hr
                      | some ob =>
                        rw [e] at hr
                        have ro := r1.s.obj l ob e
                        cases ob with
                        | lst _ => obtain ⟨vs, w1, _⟩ := ro; exact .inl ⟨rfl, vs, SqL.of w1⟩
                        | lstV _ => obtain ⟨vs, w1, _⟩ := ro; exact .inl ⟨rfl, vs, SqL.of w1⟩
                        | dct _ => cases hr
                        | dctV _ => cases hr
                        | ins _ _ => cases hr
                        | dead => cases hr
                  · rw [if_neg hr] at p1; exact p1.elim
                · cases h
              · cases h
            exact ⟨main, pt_plain main fun _ => rfl⟩
        | _ => cases as <;> cases h
    | _ => cases h
end
end PI
/-! SND7: statements, sound. -/
namespace PI
open PySem PySem.Spec PyProof.Rows L2

inductive Fv where
  | nx (σ : L2.St) | rt (v : V) | bk (σ : L2.St) | ct (σ : L2.St)
def RE (K : Fg) (H : Hp) (m : Mp) (n : Nat) (env : Env) (σ : L2.St) : Prop := (∀ (i : Nat) (w : Val), env[i]? = some (some w) → ∃ v, σ[i]? = some (some v) ∧ RV K H m n v w) ∧ env.length = σ.length
def relE (K : Fg) : Rl Env L2.St := fun H m n σ env => RE K H m n env σ
def relF (K : Fg) : Rl Fl Fv := fun H m n x f => match x, f with
  | .nx σ, .nx env => RE K H m n env σ
  | .rt v, .rt w => RV K H m n v w
  | .bk σ, .bk env => RE K H m n env σ
  | .ct σ, .ct env => RE K H m n env σ
  | _, _ => False
def endAt (D : L2.Ends) : Fv → Hp → Prop
  | .nx σ, H => D.nx σ H
  | .rt v, H => D.rt v H
  | .bk σ, H => D.bk σ H
  | .ct σ, H => D.ct σ H
def rdS (K : Fg) (ec : EC) (W : XW) (f : Env → Store → R Fl) : TS := fun D σ H => ∃ env st m, Rel K m env st σ H ∧ Post K ec W m st.length H (f env st) (relF K) (endAt D)
def rdG (K : Fg) (ec : EC) (W : XW) (f : Val → Env → Store → R Env) : TG := fun v σ H Q => ∃ env st m w, Rel K m env st σ H ∧ RV K H m st.length v w ∧ Post K ec W m st.length H (f w env st) (relE K) Q
def rdGs (K : Fg) (ec : EC) (W : XW) (is : List Nat) : TGs := fun vs σ H Q => ∃ env st m ds, Rel K m env st σ H ∧ RDs K H (Bof m st.length) vs ds ∧ Post K ec W m st.length H (ofO (setAll is ds env) st) (relE K) Q
theorem Rel.re {K : Fg} {m : Mp} {env : Env} {st : Store} {σ : L2.St} {H : Hp} (r : Rel K m env st σ H) : RE K H m st.length env σ := ⟨r.e, r.len⟩
theorem RE.rel {K : Fg} {m : Mp} {env : Env} {st : Store} {σ : L2.St} {H : Hp} (r : RE K H m st.length env σ) (s : RelS K H m st) : Rel K m env st σ H := ⟨s, r.1, r.2⟩
theorem RE.set {K : Fg} {H : Hp} {m : Mp} {n : Nat} {env : Env} {σ : L2.St} {v : V} {w : Val} (r : RE K H m n env σ) (h : RV K H m n v w) (i : Nat) : RE K H m n (env.set i (some w)) (σ.set i (some v)) := by
  refine ⟨fun j w' e => ?_, by simpa using r.2⟩
  by_cases hj : i = j
  · subst hj
    by_cases hl : i < env.length
    · rw [List.getElem?_set_self hl] at e
      cases e
      exact ⟨v, List.getElem?_set_self (by rw [← r.2]; exact hl), h⟩
    · rw [List.set_eq_of_length_le (by omega)] at e
      rw [List.set_eq_of_length_le (by rw [← r.2]; omega)]
      exact r.1 i w' e
  · rw [List.getElem?_set_ne hj] at e ⊢
    exact r.1 j w' e
section
variable {X : Cx}
theorem ps_imp {e : Stmt} {t t' : TS} (h : PS X e t) (i : ∀ D σ H, t' D σ H → t D σ H) : PS X e t' := ⟨fun pins s σ H D I q => h.run pins s σ H D I (i D σ H q)⟩
theorem pss_imp {e : List Stmt} {t t' : TS} (h : PSs X e t) (i : ∀ D σ H, t' D σ H → t D σ H) : PSs X e t' := ⟨fun pins s σ H D I q => h.run pins s σ H D I (i D σ H q)⟩
theorem pg_imp {e : Expr} {t t' : TG} (h : PG X e t) (i : ∀ v σ H Q, t' v σ H Q → t v σ H Q) : PG X e t' := ⟨fun pins s σ H v u Q I r q => h.run pins s σ H v u Q I r (i v σ H Q q)⟩
theorem pgs_imp {e : List Expr} {t t' : TGs} (h : PGs X e t) (i : ∀ v σ H Q, t' v σ H Q → t v σ H Q) : PGs X e t' := ⟨fun pins s σ H v u Q I r q => h.run pins s σ H v u Q I r (i v σ H Q q)⟩
theorem pi_imp {g e : Expr} {t t' : TI} (h : L2.PI X g e t) (i : ∀ σ H R, t' σ H R → t σ H R) : L2.PI X g e t' := ⟨fun pins s σ H R I q => h.run pins s σ H R I (i σ H R q)⟩
end

/-! ### targets -/
section
variable {T : Tb} {n : Nat} {C : CC} {X : Cx} {W : XW}
theorem Good.pgn (G : Good T n C X W) {x : Str} {i : Nat} {pos : Pos} (h : C.own x = some i) : PG X (.Name x pos) (gName i) := by
  obtain ⟨h1, h2⟩ := own_loc h
  have hl := G.loc h2
  exact pg_name (by rw [G.N]; exact G.nd) (by rw [G.N]; exact h1) hl (G.fnl x hl)
theorem assignEach_cons {e : Expr} {es : List Expr} {env : PySem.Env} (h : ∀ t p, e ≠ .Starred t p) : assignEach (e :: es) env = (false, assign e env) :: assignEach es env := by
  cases e <;> first | rfl | exact absurd rfl (h _ _)
theorem names_ok (G : Good T n C X W) : ∀ (es : List Expr) (is : List Nat), cNames C es = some is → PGs X es (rdGs X.K T.ec W is) ∧ (assignEach es X.env).length = is.length ∧ (assignEach es X.env).findIdx? (·.1) = none
  | [], is, h => by
    cases h
    refine ⟨pgs_imp pgs_nil fun vs σ H Q ⟨env, st, m, ds, r, rs, p⟩ => ?_, rfl, rfl⟩
    cases rs with
    | nil => exact ⟨rfl, p m H σ Aft.refl r.s r.re⟩
    | cons _ _ => exact p.elim
  | e :: es, is, h => by
    cases e with
    | Name x pos =>
      unfold cNames at h
      split at h
      · rename_i i is' e1 e2
        cases h
        obtain ⟨g1, g2, g3⟩ := names_ok G es is' e2
        refine ⟨pgs_imp (pgs_cons (G.pgn e1) g1) fun vs σ H Q ⟨env, st, m, ds, r, rs, p⟩ => ?_, by rw [assignEach_cons (by intros; simp)]; simp [g2], by rw [assignEach_cons (by intros; simp), List.findIdx?_cons]; simp [g3]⟩
        cases rs with
        | nil => exact p.elim
        | @cons v vs d ds r1 rs =>
          refine ⟨v, vs, rfl, env.set i (some (.d d)), st, m, ds, (r.re.set (w := .d d) r1 i).rel r.s, rs, p⟩
      · cases h
    | _ => cases h
theorem target_ok (G : Good T n C X W) {k : Nat} {e : Expr} {t : PI.T} (h : cT C k e = some t) : PG X e (rdG X.K T.ec W (asg (callN T.prog n) t)) := by
  cases e with
  | Name x pos =>
    simp only [cT] at h
    cases e : C.own x with
    | none => rw [e] at h; cases h
    | some i =>
      rw [e] at h; cases h
      exact pg_imp (G.pgn e) fun v σ H Q ⟨env, st, m, w, r, rv, p⟩ => p m H _ Aft.refl r.s (r.re.set rv i)
  | Tuple es c pos =>
    simp only [cT] at h
    cases e : cNames C es with
    | none => rw [e] at h; cases h
    | some is =>
      rw [e] at h; cases h
      obtain ⟨g1, g2, g3⟩ := names_ok G es is e
      refine pg_imp (pg_tup G.calm g1 g2 g3) fun v σ H Q ⟨env, st, m, w, r, rv, p⟩ => ?_
      cases w with
      | loc l => exact p.elim
      | d x =>
        cases x with
        | tup ds =>
          obtain ⟨a, xs, rfl, t1, r1⟩ := rd_tup rv
          simp only [asg] at p
          refine ⟨a, xs, rfl, t1.sq, ?_, env, st, m, ds, r, r1, p⟩
          rw [r1.length]
          have hl : ∀ (is : List Nat) (ds : List D) (env : Env), (setAll is ds env).isSome = true → ds.length = is.length := by
            intro is
            induction is with
            | nil => intro ds env h; cases ds with
              | nil => rfl
              | cons _ _ => cases h
            | cons i is ih => intro ds env h; cases ds with
              | nil => cases h
              | cons d ds => simp only [List.length_cons]; rw [ih ds _ h]
          cases q : setAll is ds env with
          | none => rw [q] at p; exact p.elim
          | some e' => exact hl is ds env (by rw [q]; rfl)
        | _ => exact p.elim
  | Subscript o i pos =>
    simp only [cT] at h
    split at h
    · rename_i hs
      split at h
      · rename_i o' i' e1 e2
        cases h
        refine pg_imp (pg_sub (expr_ok G k o o' e1).1 (expr_ok G k i i' e2).1 (ps_setItem (ec := T.ec) (W := W)) (by intro v; cases i <;> first | rfl | cases hs)) fun v σ H Q ⟨env, st, m, w, r, rv, p⟩ => ?_
        refine rd_step r p fun m1 st1 H1 x1 w1 r1 a1 rv1 p1 => ?_
        refine rd_step r1 p1 fun m2 st2 H2 x2 w2 r2 a2 rv2 p2 => ?_
        refine ⟨m2, st2, w1, w2, w, r2.s, rv1.aft a2, rv2, (rv.aft a1).aft a2, ?_⟩
        exact (Post.bind (rel1 := unitRel) p2).imp fun u H3 ⟨m3, st3, w3, a3, s3, q3, p3⟩ => p3 m3 H3 σ Aft.refl s3 (r2.aft a3 s3).re
      · cases h
    · cases h
  | _ => cases h

/-! ### op= -/
def rIp (K : Fg) (ec : EC) (W : XW) (o : Op2) : TIp := fun x y H Q => ∃ m st a b, RelS K H m st ∧ RV K H m st.length x a ∧ RV K H m st.length y b ∧ Post K ec W m st.length H (binI o a b st) (RV K) Q
theorem ip_ok {K : Fg} {o : Op2} {o' : Operator} (ho : opIs o' = some o) {ec : EC} : PIp X o' (rIp X.K ec W o) := by
  intro pins s σ H x y v u Q I rx ry h
  obtain ⟨m, st, a, b, R, ra, rb, p⟩ := h
  cases a with
  | loc l => cases o <;> exact p.elim
  | d x' =>
    cases b with
    | loc k => cases o <;> cases x' <;> exact p.elim
    | d y' =>
      cases x' with
      | int i =>
        cases y' with
        | int j =>
          obtain rfl := rd_int ra
          obtain rfl := rd_int rb
          cases o' <;> cases ho
          · exact iop_add pins s σ H _ _ v u Q I rx ry ⟨i, j, rfl, rfl, post_data R p (.int _)⟩
          · exact iop_sub pins s σ H _ _ v u Q I rx ry ⟨i, j, rfl, rfl, post_data R p (.int _)⟩
          · simp only [binI] at p
            by_cases hz : mulOk i j = true
            · rw [if_pos hz] at p
              refine iop_mul pins s σ H _ _ v u Q I rx ry ⟨i, j, rfl, rfl, ?_, post_data R p (.int _)⟩
              rcases Bool.or_eq_true_iff.mp hz with z | z
              · obtain ⟨z1, z2⟩ := Bool.and_eq_true_iff.mp z
                exact .inl ⟨of_decide_eq_true z1, of_decide_eq_true z2⟩
              · obtain ⟨z1, z2⟩ := Bool.and_eq_true_iff.mp z
                exact .inr ⟨of_decide_eq_true z1, of_decide_eq_true z2⟩
            · rw [if_neg hz] at p; exact p.elim
          · simp only [binI] at p
            by_cases hz : 0 < j
            · rw [if_pos hz] at p
              exact iop_mod pins s σ H _ _ v u Q I rx ry ⟨i, j, rfl, rfl, hz, post_data R p (.int _)⟩
            · rw [if_neg hz] at p; exact p.elim
          · exact p.elim
          · simp only [binI] at p
            by_cases hz : 0 < j ∧ j < 1073741824
            · rw [if_pos hz] at p
              exact iop_fdiv pins s σ H _ _ v u Q I rx ry ⟨i, j, rfl, rfl, hz, post_data R p (.int _)⟩
            · rw [if_neg hz] at p; exact p.elim
        | _ => cases o <;> exact p.elim
      | str i =>
        cases y' with
        | str j =>
          cases o' <;> cases ho <;> first | exact p.elim | skip
          obtain ⟨x1, rfl, e1, k1, z1⟩ := rd_str ra
          obtain ⟨x2, rfl, e2, k2, z2⟩ := rd_str rb
          simp only [binI] at p
          by_cases hz : i.length + j.length ≤ big
          · rw [if_pos hz] at p
            refine iop_add_str pins s σ H _ _ v u Q I rx ry ⟨x1, x2, rfl, rfl, by rw [str_len, str_len, e1, e2]; exact hz, post_data R p ?_⟩
            rw [← e1, ← e2, ← str_append]
            exact .str _ (strOk_append k1 k2) (by rw [str_len, str_append, List.length_append, e1, e2]; exact hz)
          · rw [if_neg hz] at p; exact p.elim
        | _ => cases o <;> exact p.elim
      | _ => cases o <;> cases y' <;> exact p.elim

/-! ### what a loop walks -/
def relI (K : Fg) : Rl Ity L2.It := fun H m n J y => match y with
  | .d xs => ∀ m' st' H' i, Aft m n H m' st'.length H' → RelS K H' m' st' → (i < xs.length → J.go i H' ∧ ∀ x H2, J.yld i H' x H2 → Aft m' st'.length H' m' st'.length H2 ∧ RelS K H2 m' st' ∧ ∃ w, xs[i]? = some w ∧ RV K H2 m' st'.length x w) ∧ (xs.length ≤ i → J.stop i H')
  | .l l => l < n ∧ J = Itl K (m l)
def rdI (K : Fg) (ec : EC) (W : XW) (f : Env → Store → R Ity) : TI := fun σ H R => ∃ env st m, Rel K m env st σ H ∧ Post K ec W m st.length H (f env st) (relI K) R
theorem rdi_tup {K : Fg} {H : Hp} {m : Mp} {n : Nat} {a : Addr} {xs : List V} {ds : List D} (h : TupAt K H (Bof m n) a xs) (r : RDs K H (Bof m n) xs ds) : relI K H m n (Itt K a) (.d (ds.map .d)) := by
  intro m' st' H' i A R
  have h' : TupAt K H' (Bof m' st'.length) a xs := h.imp (fun ⟨x, y⟩ => A.rd x y) id
  have r' := r.aft A
  have hl := r'.length
  refine ⟨fun hi => ?_, fun hi => ⟨xs, h'.sq, by simp at hi; omega⟩⟩
  simp at hi
  refine ⟨⟨xs, xs[i]'(by omega), h'.sq, List.getElem?_eq_getElem _⟩, fun x H2 ⟨e, y⟩ => ?_⟩
  subst e
  obtain ⟨v, e1, e2⟩ := r'.get (List.getElem?_eq_getElem hi)
  have := y xs h'.sq
  rw [e1] at this; cases this
  exact ⟨Aft.refl, R, .d ds[i], by simp [hi], e2⟩
theorem rdi_lst {K : Fg} {H : Hp} {m : Mp} {n : Nat} {a : Addr} {xs : List V} {ds : List D} (h : LstAt K H (Bof m n) a xs) (r : RDs K H (Bof m n) xs ds) : relI K H m n (Itl K a) (.d (ds.map .d)) := by
  intro m' st' H' i A R
  have h' : LstAt K H' (Bof m' st'.length) a xs := h.imp (fun ⟨x, y⟩ => A.frz x y) id
  have r' := r.aft A
  have hl := r'.length
  refine ⟨fun hi => ?_, fun hi => ⟨xs, h'.sq, by simp at hi; omega⟩⟩
  simp at hi
  refine ⟨⟨xs, xs[i]'(by omega), h'.sq, List.getElem?_eq_getElem _⟩, fun x H2 ⟨e, y⟩ => ?_⟩
  subst e
  obtain ⟨v, e1, e2⟩ := r'.get (List.getElem?_eq_getElem hi)
  have := y xs h'.sq
  rw [e1] at this; cases this
  exact ⟨Aft.refl, R, .d ds[i], by simp [hi], e2⟩
theorem rdi_str {K : Fg} {H : Hp} {m : Mp} {n : Nat} {x : Str} (hk : PyData.strOk x = true) : relI K H m n (Its x) (.d (x.cps.toList.map fun c => .d (.str [c]))) := by
  intro m' st' H' i A R
  refine ⟨fun hi => ?_, fun hi => by simp at hi; exact hi⟩
  simp at hi
  refine ⟨hi, fun v H2 ⟨e, c, e1, e2⟩ => ?_⟩
  subst e
  refine ⟨Aft.refl, R, .d (.str [c]), by simp [e1], ?_⟩
  rw [e2]
  have hc : decide (c < 0x110000) = true := by
    unfold PyData.strOk at hk
    have hk' := Array.all_eq_true.mp hk
    obtain ⟨hi', e'⟩ := Array.getElem?_eq_some_iff.mp e1
    have := hk' i hi'
    rw [e'] at this
    exact this
  refine RD.str ⟨#[c]⟩ ?_ ?_
  · unfold PyData.strOk
    simpa using hc
  · show (#[c] : Array Nat).size ≤ sizeLine
    show 1 ≤ sizeLine
    decide
theorem rdi_rng {K : Fg} {H : Hp} {m : Mp} {n : Nat} {lo : Int} {k : Nat} : relI K H m n (Itr lo k) (.d (rangeL lo k)) := by
  intro m' st' H' i A R
  have hl : (rangeL lo k).length = k := by simp [rangeL]
  rw [hl]
  refine ⟨fun hi => ⟨hi, fun v H2 ⟨e, e2⟩ => ?_⟩, fun hi => hi⟩
  subst e e2
  exact ⟨Aft.refl, R, .d (.int (lo + i)), by simp [rangeL, hi], .int _⟩
theorem rngOk_iff {i : Int} (h : rngOk i = true) : -(2 ^ 62) ≤ i ∧ i < 2 ^ 62 := by
  unfold rngOk at h
  obtain ⟨h1, h2⟩ := Bool.and_eq_true_iff.mp h
  exact ⟨of_decide_eq_true h1, of_decide_eq_true h2⟩
/-- an iterable by its value -/
theorem pi_val (G : Good T n C X W) {tg e : Expr} {E' : E} (h : PE X e (rd X.K T.ec W (ev (callN T.prog n) E'))) : L2.PI X tg e (rdI X.K T.ec W (evIt (callN T.prog n) (.e E'))) := by
  refine ⟨fun pins s σ H Q I hw => ?_⟩
  obtain ⟨env, st, m, r, p⟩ := hw
  have go : ∀ {m1 : Mp} {st1 : Store} {H1 : Hp} {v : V} {w : Val} {u : Value} {s1 : Shared}, Inv X pins σ H1 s1 → RelV v u → RelS X.K H1 m1 st1 → RV X.K H1 m1 st1.length v w → Post X.K T.ec W m1 st1.length H1 (itOf w st1) (relI X.K) Q →
      wpAny (model X.prog X.w) X.A (pyIter u) (PIE X pins σ tg Q) X.xe s1 := by
    intro m1 st1 H1 v w u s1 I1 ru R1 rv p1
    -- the rule of the hand layer at a name that stands for the value
    cases w with
    | loc l =>
      obtain ⟨hl, rfl⟩ := rv
      simp only [itOf] at p1
      cases e1 : (st1[l]?).bind Obj.items? with
      | none => rw [e1] at p1; exact p1.elim
      | some xs =>
        rw [e1] at p1
        obtain ⟨o1, q1, q2⟩ := Option.bind_eq_some_iff.mp e1
        obtain ⟨vs, w1, w2⟩ := ro_items (R1.obj l o1 q1) q2
        cases ru
        obtain ⟨its, rv, p', hz⟩ := I1.list (SqL.of w1)
        refine wpAny_pyIter_list p'.isList ?_
        refine ⟨s1.heap.objs.size, [s1.heap.objs.size], _, _, H1, rfl, I1.kept (t' := s1.toks) fun b o e => Heap.get?_push_of_some _ e, turn_list (m1 l) _, ⟨_, Heap.get?_push_size _ rfl, rfl, rfl⟩, fun b hb => ?_, p1 m1 H1 _ Aft.refl R1 ⟨hl, rfl⟩⟩
        have e : b = s1.heap.objs.size := by simpa using hb
        subst e
        exact I1.fpOk (Nat.le_refl _) (I1.hok.fresh (Nat.le_refl _))
    | d x =>
      cases x with
      | tup ds =>
        obtain ⟨a, xs, rfl, t1, r1⟩ := rd_tup rv
        cases ru
        obtain ⟨its, rv', p', hz⟩ := I1.tuple t1.sq
        refine wpAny_pyIter_tuple (show s1.heap.IsTuple a its.toArray from p') ?_
        refine ⟨s1.heap.objs.size, [s1.heap.objs.size], _, _, H1, rfl, I1.kept (t' := s1.toks) fun b o e => Heap.get?_push_of_some _ e, turn_tuple a _, ⟨_, Heap.get?_push_size _ rfl, rfl, rfl⟩, fun b hb => ?_, p1 m1 H1 _ Aft.refl R1 (rdi_tup t1 r1)⟩
        have e : b = s1.heap.objs.size := by simpa using hb
        subst e
        exact I1.fpOk (Nat.le_refl _) (I1.hok.fresh (Nat.le_refl _))
      | lst ds =>
        obtain ⟨a, xs, rfl, t1, r1⟩ := rd_lst rv
        cases ru
        obtain ⟨its, rv', p', hz⟩ := I1.list t1.sq
        refine wpAny_pyIter_list p'.isList ?_
        refine ⟨s1.heap.objs.size, [s1.heap.objs.size], _, _, H1, rfl, I1.kept (t' := s1.toks) fun b o e => Heap.get?_push_of_some _ e, turn_list a _, ⟨_, Heap.get?_push_size _ rfl, rfl, rfl⟩, fun b hb => ?_, p1 m1 H1 _ Aft.refl R1 (rdi_lst t1 r1)⟩
        have e : b = s1.heap.objs.size := by simpa using hb
        subst e
        exact I1.fpOk (Nat.le_refl _) (I1.hok.fresh (Nat.le_refl _))
      | str x =>
        obtain ⟨x1, rfl, e1, k1, z1⟩ := rd_str rv
        subst e1
        obtain ⟨t, rfl⟩ := ru
        have q := p1 m1 H1 _ Aft.refl R1 (rdi_str k1)
        cases ha : x1.cps.all (· < 128)
        · exact wpAny_pyIter_wide ha (pi_one (tk := s1.toks) I1 _ (turn_str _ x1 t "str_iterator" (.inr rfl)) ⟨_, Heap.get?_push_size _ rfl, rfl, rfl⟩ q)
        · exact wpAny_pyIter_ascii ha (pi_one (tk := s1.toks) I1 _ (turn_str _ x1 t "str_ascii_iterator" (.inl rfl)) ⟨_, Heap.get?_push_size _ rfl, rfl, rfl⟩ q)
      | _ => exact p1.elim
  have p' : Post X.K T.ec W m st.length H ((ev (callN T.prog n) E' env st).bind fun v st => itOf v st) (relI X.K) Q := p
  have hq := (Post.bind (rel1 := RV X.K) p')
  refine thn (h.run pins s σ H _ I ⟨env, st, m, r, hq⟩) fun u s1 ⟨v, H1, I1, ru, m1, st1, w, a, R1, rv, p1⟩ => ?_
  exact go I1 ru R1 rv p1
theorem it_ok (G : Good T n C X W) {k : Nat} {tg e : Expr} {t : PI.It} (h : cIt C k e = some t) : L2.PI X tg e (rdI X.K T.ec W (evIt (callN T.prog n) t)) ∧ ∀ x, foldedSetIterable e X.env x = pure x := by
  have gen : ∀ {t : PI.It}, (cE C k e).map PI.It.e = some t → L2.PI X tg e (rdI X.K T.ec W (evIt (callN T.prog n) t)) ∧ ∀ x, foldedSetIterable e X.env x = pure x := by
    intro t h
    cases e1 : cE C k e with
    | none => rw [e1] at h; cases h
    | some E' =>
      rw [e1] at h; cases h
      exact ⟨pi_val G (expr_ok G k e E' e1).1, fold_of e1⟩
  unfold cIt at h
  split at h
  · rename_i x p a pos
    split at h
    · rename_i hb
      obtain ⟨hx, hb⟩ := Bool.and_eq_true_iff.mp hb
      have hx' : x = "range" := of_decide_eq_true hx
      subst hx'
      cases e1 : cE C k a with
      | none => rw [e1] at h; cases h
      | some a' =>
        rw [e1] at h; cases h
        refine ⟨?_, fun x => rfl⟩
        have hcs : cEs (cE C k) [a] = some [a'] := by simp [cEs, e1]
        refine pi_imp (pi_range1 (G.gl (blt_gl hb)) (G.mgN (by decide)) (pa_of hcs fun e E' h => (expr_ok G k e E' h).1) (star_of e1)) fun σ H Q ⟨env, st, m, r, p⟩ => ?_
        refine rdA_step r (f := evs (callN T.prog n) [a']) p fun m1 st1 H1 vs ws r1 a1 rvs p1 => ?_
        cases rvs with
        | nil => exact p1.elim
        | @cons v w vs ws rv rvs =>
          cases rvs with
          | cons _ _ => cases w with
            | d x => cases x <;> exact p1.elim
            | loc l => exact p1.elim
          | nil =>
            cases w with
            | loc l => exact p1.elim
            | d x =>
              cases x with
              | int j =>
                obtain rfl := rd_int rv
                simp only at p1
                by_cases hj : rngOk j = true
                · rw [if_pos hj] at p1
                  exact ⟨j, rfl, (rngOk_iff hj).1, (rngOk_iff hj).2, p1 m1 H1 _ Aft.refl r1.s rdi_rng⟩
                · rw [if_neg hj] at p1; exact p1.elim
              | _ => exact p1.elim
    · exact gen h
  · rename_i x p a b pos
    split at h
    · rename_i hb
      obtain ⟨hx, hb⟩ := Bool.and_eq_true_iff.mp hb
      have hx' : x = "range" := of_decide_eq_true hx
      subst hx'
      split at h
      · rename_i a' b' e1 e2
        cases h
        refine ⟨?_, fun x => rfl⟩
        have hcs : cEs (cE C k) [a, b] = some [a', b'] := by simp [cEs, e1, e2]
        refine pi_imp (pi_range2 (G.gl (blt_gl hb)) (G.mgN (by decide)) (pa_of hcs fun e E' h => (expr_ok G k e E' h).1) (by rw [star_of e1, star_of e2]; rfl) (by rw [star_of e2]; rfl)) fun σ H Q ⟨env, st, m, r, p⟩ => ?_
        refine rdA_step r (f := evs (callN T.prog n) [a', b']) p fun m1 st1 H1 vs ws r1 a1 rvs p1 => ?_
        cases rvs with
        | nil => exact p1.elim
        | @cons v w vs ws rv rvs =>
          cases rvs with
          | nil => cases w with
            | d x => cases x <;> exact p1.elim
            | loc l => exact p1.elim
          | @cons v2 w2 vs ws rv2 rvs =>
            cases w with
            | loc l => exact p1.elim
            | d x =>
              cases x with
              | int i =>
                cases w2 with
                | loc l => exact p1.elim
                | d x =>
                  cases x with
                  | int j =>
                    cases rvs with
                    | cons _ _ => exact p1.elim
                    | nil =>
                      obtain rfl := rd_int rv
                      obtain rfl := rd_int rv2
                      simp only at p1
                      by_cases hj : (rngOk i && rngOk j) = true
                      · rw [if_pos hj] at p1
                        obtain ⟨h1, h2⟩ := Bool.and_eq_true_iff.mp hj
                        exact ⟨i, j, rfl, ⟨(rngOk_iff h1).1, (rngOk_iff h1).2, (rngOk_iff h2).1, (rngOk_iff h2).2⟩, p1 m1 H1 _ Aft.refl r1.s rdi_rng⟩
                      · rw [if_neg hj] at p1; exact p1.elim
                  | _ => exact p1.elim
              | _ => exact p1.elim
      · cases h
    · exact gen h
  · cases h
  · cases h
  · exact gen h
end
end PI
/-! SND8: loops, small statements, sound. -/
namespace PI
open PySem PySem.Spec PyProof.Rows L2

section
variable {T : Tb} {n : Nat} {C : CC} {X : Cx} {W : XW}

/-- behind the first part of a statement -/
theorem fl_step {α : Type} {K : Fg} {ec : EC} {m : Mp} {st : Store} {H : Hp} {r : R Fl} {g : Fl → Store → R α} {β : Type} {rel : Rl α β} {Q : β → Hp → Prop} {D : L2.Ends}
    (p : Post K ec W m st.length H (r.bind g) rel Q)
    (nx : ∀ m1 st1 H1 σ1 env1, Rel K m1 env1 st1 σ1 H1 → Aft m st.length H m1 st1.length H1 → Post K ec W m1 st1.length H1 (g (.nx env1) st1) rel Q → D.nx σ1 H1)
    (rt : ∀ m1 st1 H1 v w, RelS K H1 m1 st1 → Aft m st.length H m1 st1.length H1 → RV K H1 m1 st1.length v w → Post K ec W m1 st1.length H1 (g (.rt w) st1) rel Q → D.rt v H1)
    (bk : ∀ m1 st1 H1 σ1 env1, Rel K m1 env1 st1 σ1 H1 → Aft m st.length H m1 st1.length H1 → Post K ec W m1 st1.length H1 (g (.bk env1) st1) rel Q → D.bk σ1 H1)
    (ct : ∀ m1 st1 H1 σ1 env1, Rel K m1 env1 st1 σ1 H1 → Aft m st.length H m1 st1.length H1 → Post K ec W m1 st1.length H1 (g (.ct env1) st1) rel Q → D.ct σ1 H1) :
    Post K ec W m st.length H r (relF K) (endAt D) := by
  refine (Post.bind (rel1 := relF K) p).imp fun x H1 ⟨m1, st1, f, a, s, rf, p1⟩ => ?_
  cases x with
  | nx σ => cases f with
    | nx env => exact nx m1 st1 H1 σ env (RE.rel rf s) a p1
    | _ => exact False.elim rf
  | rt v => cases f with
    | rt w => exact rt m1 st1 H1 v w s a rf p1
    | _ => exact False.elim rf
  | bk σ => cases f with
    | bk env => exact bk m1 st1 H1 σ env (RE.rel rf s) a p1
    | _ => exact False.elim rf
  | ct σ => cases f with
    | ct env => exact ct m1 st1 H1 σ env (RE.rel rf s) a p1
    | _ => exact False.elim rf
/-- an environment's step -/
theorem en_step {K : Fg} {ec : EC} {m : Mp} {st : Store} {H : Hp} {r : R Env} {α β : Type} {g : Env → Store → R α} {rel : Rl α β} {Q : β → Hp → Prop} {Q' : L2.St → Hp → Prop}
    (p : Post K ec W m st.length H (r.bind g) rel Q)
    (h : ∀ m1 st1 H1 σ1 env1, Rel K m1 env1 st1 σ1 H1 → Aft m st.length H m1 st1.length H1 → Post K ec W m1 st1.length H1 (g env1 st1) rel Q → Q' σ1 H1) : Post K ec W m st.length H r (relE K) Q' :=
  (Post.bind (rel1 := relE K) p).imp fun x H1 ⟨m1, st1, f, a, s, rf, p1⟩ => h m1 st1 H1 x f (RE.rel rf s) a p1

theorem whs (c : Env → Store → R Bool) (b : Env → Store → R Fl) {K : Fg} {ec : EC} : ∀ (k : Nat) (env : Env) (st : Store) (m : Mp) (D : L2.Ends) (σ : L2.St) (H : Hp), Rel K m env st σ H → Post K ec W m st.length H (whileF c b k env st) (relF K) (endAt D) → tWhile (rdT K ec W c) (rdS K ec W b) D σ H := by
  intro k env st m D σ H r p
  refine ⟨fun k σ H => ∃ env st m, Rel K m env st σ H ∧ Post K ec W m st.length H (whileF c b k env st) (relF K) (endAt D), ⟨k, env, st, m, r, p⟩, ?_⟩
  clear r p
  rintro k σ H ⟨env, st, m, r, p⟩
  cases k with
  | zero => exact p.elim
  | succ k =>
    unfold whileF at p
    refine rdT_step r p fun m1 st1 H1 w r1 a1 p1 => ?_
    cases w with
    | false =>
      rw [if_neg Bool.false_ne_true] at p1 ⊢
      exact p1 m1 H1 (.nx σ) Aft.refl r1.s r1.re
    | true =>
      rw [if_pos rfl] at p1 ⊢
      refine ⟨fun σ H => ∃ env st m, Rel K m env st σ H ∧ Post K ec W m st.length H (whileF c b k env st) (relF K) (endAt D), fun σ' H' q => ⟨k, Nat.lt_succ_self k, q⟩, env, st1, m1, r1, ?_⟩
      refine fl_step p1 ?_ ?_ ?_ ?_
      · exact fun m2 st2 H2 σ2 env2 r2 a2 p2 => ⟨env2, st2, m2, r2, p2⟩
      · exact fun m2 st2 H2 v w s2 a2 rv p2 => p2 m2 H2 (.rt v) Aft.refl s2 rv
      · exact fun m2 st2 H2 σ2 env2 r2 a2 p2 => p2 m2 H2 (.nx σ2) Aft.refl r2.s r2.re
      · exact fun m2 st2 H2 σ2 env2 r2 a2 p2 => ⟨env2, st2, m2, r2, p2⟩

theorem aft_get {K : Fg} {m m' : Mp} {n n' : Nat} {H H' : Hp} {J : L2.It} {y : Ity} (a : Aft m n H m' n' H') (hs : ∀ l, l < n → ∃ u, H' (m l) = some u) (h : relI K H m n J y) : relI K H' m' n' J y := by
  cases y with
  | d xs => exact fun m2 st2 H2 i b s => h m2 st2 H2 i (a.trans b hs) s
  | l l => exact ⟨Nat.lt_of_lt_of_le h.1 a.len, by rw [h.2, a.mp l h.1]⟩

/-- a loop's turns, over things that stand still -/
theorem fors_d {K : Fg} {ec : EC} (g : Val → Env → Store → R Env) (b : Env → Store → R Fl) (J : L2.It) (xs : List Val) {D : L2.Ends} {σ : L2.St} {H : Hp} {env : Env} {st : Store} {m : Mp} (r : Rel K m env st σ H)
    (hJ : relI K H m st.length J (.d xs)) (p : Post K ec W m st.length H (forD g b xs env st) (relF K) (endAt D)) :
    ∃ W' : Nat → Nat → L2.St → Hp → Prop, (∃ m, W' 0 m σ H) ∧ ∀ i m σ H, W' i m σ H →
      (J.stop i H ∧ D.nx σ H) ∨ (J.go i H ∧ ∃ N : L2.St → Hp → Prop, (∀ σ' H', N σ' H' → ∃ m', m' < m ∧ W' (i + 1) m' σ' H') ∧ ∀ x H', J.yld i H x H' → rdG K ec W g x σ H' fun σ2 H2 => rdS K ec W b { D with nx := N, ct := N, bk := D.nx } σ2 H2) := by
  refine ⟨fun i k σ H => k = xs.length - i ∧ ∃ env st m, Rel K m env st σ H ∧ relI K H m st.length J (.d xs) ∧ Post K ec W m st.length H (forD g b (xs.drop i) env st) (relF K) (endAt D), ⟨xs.length, by simp, env, st, m, r, hJ, p⟩, ?_⟩
  clear r hJ p
  rintro i k σ H ⟨rfl, env, st, m, r, hJ, p⟩
  have hJ0 := hJ m st H i Aft.refl r.s
  by_cases hi : i < xs.length
  · rw [List.drop_eq_getElem_cons hi] at p
    unfold forD at p
    refine .inr ⟨(hJ0.1 hi).1, fun σ H => ∃ env st m, Rel K m env st σ H ∧ relI K H m st.length J (.d xs) ∧ Post K ec W m st.length H (forD g b (xs.drop (i + 1)) env st) (relF K) (endAt D), fun σ' H' q => ⟨xs.length - (i + 1), by omega, rfl, q⟩, fun x H2 y => ?_⟩
    obtain ⟨a2, s2, w, e1, rv⟩ := (hJ0.1 hi).2 x H2 y
    rw [List.getElem?_eq_getElem hi] at e1
    cases e1
    have r2 := r.aft a2 s2
    have hs2 := RelS.aft_has a2 s2
    refine ⟨env, st, m, xs[i], r2, rv, en_step (p.shift a2 hs2) fun m3 st3 H3 σ3 env3 r3 a3 p3 => ?_⟩
    have hJ3 := aft_get (a2.trans a3 hs2) (RelS.aft_has (a2.trans a3 hs2) r3.s) hJ
    refine ⟨env3, st3, m3, r3, fl_step p3 ?_ ?_ ?_ ?_⟩
    · exact fun m2 st2 H2 σ2 env2 r2 a2 p2 => ⟨env2, st2, m2, r2, aft_get a2 (RelS.aft_has a2 r2.s) hJ3, p2⟩
    · exact fun m2 st2 H2 v w s2 a2 rv p2 => p2 m2 H2 (.rt v) Aft.refl s2 rv
    · exact fun m2 st2 H2 σ2 env2 r2 a2 p2 => p2 m2 H2 (.nx σ2) Aft.refl r2.s r2.re
    · exact fun m2 st2 H2 σ2 env2 r2 a2 p2 => ⟨env2, st2, m2, r2, aft_get a2 (RelS.aft_has a2 r2.s) hJ3, p2⟩
  · rw [List.drop_of_length_le (by omega)] at p
    exact .inl ⟨hJ0.2 (by omega), p m H (.nx σ) Aft.refl r.s r.re⟩
/-- over a list of the store -/
theorem fors_l {K : Fg} {ec : EC} (g : Val → Env → Store → R Env) (b : Env → Store → R Fl) (J : L2.It) (l : Nat) (k : Nat) {D : L2.Ends} {σ : L2.St} {H : Hp} {env : Env} {st : Store} {m : Mp} (r : Rel K m env st σ H)
    (hJ : relI K H m st.length J (.l l)) (p : Post K ec W m st.length H (forL g b l k 0 env st) (relF K) (endAt D)) :
    ∃ W' : Nat → Nat → L2.St → Hp → Prop, (∃ m, W' 0 m σ H) ∧ ∀ i m σ H, W' i m σ H →
      (J.stop i H ∧ D.nx σ H) ∨ (J.go i H ∧ ∃ N : L2.St → Hp → Prop, (∀ σ' H', N σ' H' → ∃ m', m' < m ∧ W' (i + 1) m' σ' H') ∧ ∀ x H', J.yld i H x H' → rdG K ec W g x σ H' fun σ2 H2 => rdS K ec W b { D with nx := N, ct := N, bk := D.nx } σ2 H2) := by
  refine ⟨fun i k σ H => ∃ env st m, Rel K m env st σ H ∧ relI K H m st.length J (.l l) ∧ Post K ec W m st.length H (forL g b l k i env st) (relF K) (endAt D), ⟨k, env, st, m, r, hJ, p⟩, ?_⟩
  clear r hJ p
  rintro i k σ H ⟨env, st, m, r, hJ, p⟩
  cases k with
  | zero => exact p.elim
  | succ k =>
    obtain ⟨hl, rfl⟩ := hJ
    unfold forL at p
    cases e1 : (st[l]?).bind Obj.items? with
    | none => rw [e1] at p; exact p.elim
    | some xs =>
      rw [e1] at p
      simp only at p
      obtain ⟨o1, q1, q2⟩ := Option.bind_eq_some_iff.mp e1
      obtain ⟨vs, w1, w2⟩ := ro_items (r.s.obj l o1 q1) q2
      have hlen := RVs.length w2
      cases e2 : xs[i]? with
      | none =>
        rw [e2] at p
        have : xs.length ≤ i := List.getElem?_eq_none_iff.mp e2
        exact .inl ⟨⟨vs, SqL.of w1, by omega⟩, p m H (.nx σ) Aft.refl r.s r.re⟩
      | some x =>
        rw [e2] at p
        simp only at p
        obtain ⟨v, e3, rv⟩ := RVs.get w2 e2
        refine .inr ⟨⟨vs, v, SqL.of w1, e3⟩, fun σ H => ∃ env st m', Rel K m' env st σ H ∧ relI K H m' st.length (Itl K (m l)) (.l l) ∧ Post K ec W m' st.length H (forL g b l k (i + 1) env st) (relF K) (endAt D), fun σ' H' q => ⟨k, Nat.lt_succ_self k, q⟩, fun x' H2 ⟨e4, y⟩ => ?_⟩
        subst e4
        have := y vs (SqL.of w1)
        rw [e3] at this; cases this
        refine ⟨env, st, m, x, r, rv, en_step p fun m3 st3 H3 σ3 env3 r3 a3 p3 => ?_⟩
        have hl3 : relI K H3 m3 st3.length (Itl K (m l)) (.l l) := aft_get a3 (RelS.aft_has a3 r3.s) (show relI K H2 m st.length (Itl K (m l)) (.l l) from ⟨hl, rfl⟩)
        refine ⟨env3, st3, m3, r3, fl_step p3 ?_ ?_ ?_ ?_⟩
        · exact fun m2 st2 H2 σ2 env2 r2 a2 p2 => ⟨env2, st2, m2, r2, aft_get a2 (RelS.aft_has a2 r2.s) hl3, p2⟩
        · exact fun m2 st2 H2 v w s2 a2 rv p2 => p2 m2 H2 (.rt v) Aft.refl s2 rv
        · exact fun m2 st2 H2 σ2 env2 r2 a2 p2 => p2 m2 H2 (.nx σ2) Aft.refl r2.s r2.re
        · exact fun m2 st2 H2 σ2 env2 r2 a2 p2 => ⟨env2, st2, m2, r2, aft_get a2 (RelS.aft_has a2 r2.s) hl3, p2⟩
/-- what a loop asks -/
theorem for_ok {K : Fg} {ec : EC} {it : PI.It} {cf : CF} (g : Val → Env → Store → R Env) (b : Env → Store → R Fl) {D : L2.Ends} {σ : L2.St} {H : Hp} (h : rdS K ec W (forI cf g b it) D σ H) :
    tFor (rdI K ec W (evIt cf it)) (rdG K ec W g) (rdS K ec W b) D σ H := by
  obtain ⟨env, st, m, r, p⟩ := h
  unfold forI at p
  refine ⟨env, st, m, r, (Post.bind (rel1 := relI K) p).imp fun J H1 ⟨m1, st1, y, a, s, rJ, p1⟩ => ?_⟩
  have r1 := r.aft a s
  cases y with
  | d xs => exact fors_d g b J xs r1 rJ p1
  | l l => exact fors_l g b J l fuel r1 rJ p1

/-! ### statements -/
theorem swapsWithSole_one {t e : Expr} {l : Nat} {env : PySem.Env} : swapsWithSole [t] e l env = swapsWith e (some t) l env := rfl
theorem swapped_none {C : CC} {k : Nat} {t e : Expr} {t' : PI.T} {env : PySem.Env} (ht : cT C k t = some t') (h : (!(isTup t && isTup e)) = true) : swappedStores [t] e env = pure none := by
  cases t <;> first | rfl | cases ht | (cases e <;> first | rfl | exact Bool.noConfusion h)
theorem each_one {C : CC} {k : Nat} {t : Expr} {t' : PI.T} {env : PySem.Env} (h : cT C k t = some t') : (assignEach [t] env).map (·.2) = [assign t env] := by
  cases t <;> first | rfl | cases h

end
end PI
/-! SND9: own errors: raise, try .. except, sound. -/
namespace PI
open PySem PySem.Spec PyProof.Rows L2

/-! ### Base.__init__(self, ..), Base an own class without its own __init__ -/
structure BaseI (K : Fg) (B : Addr) : Prop where
  sp : PySem.W.specialIn K (.ref B) "__getattribute__" = some (some (.builtin "type.__getattribute__"))
  ty : PySem.W.typeIn K (.ref B) = some (.type "type")
  rd : PySem.W.readsIn K B (.type "type") = true
  fc : PySem.W.findCls K (.ref B) (.type "type") "__init__" = some (.val (.builtin "ValueError.__init__"))
section
variable {X : Cx} {o e : Expr} {es : List Expr} {to te : TE} {ta : TA} {f : Str} {p p' p1 p2 pos : Pos} {x : Str} {B : Addr}
theorem pe_baseinit {pl : Sem Bool} (hg : Gl X x) (hm : X.mg x = some (.ref B)) (T : BaseI X.K B) (ha : PA X (e :: es) ta) (hdb : (x == ("__debug__" : Str)) = false)
    (hc : eval (.Call (.Attribute (.Name x p1) "__init__" p2) (e :: es) [] pos) X.env = (do
      let ov ← eval (.Name x p1) X.env
      standAt p2.atName
      let (f, first) ← holding [ov] (getMethod ov "__init__" pl)
      callWith pos f first (backTo pos (starEach (e :: es) X.env)) (backToKw pos (keywordEach [] X.env))) := by rfl)
    (he : starEach (e :: es) X.env = (false, eval e X.env) :: starEach es X.env := by rfl) (hpl : (backTo pos (starEach es X.env)).any (·.1) = false := by rfl) :
    PE X (.Call (.Attribute (.Name x p1) "__init__" p2) (e :: es) [] pos) (tVeI X.K ta) := by
  refine ⟨fun pins s σ H Q I h => ?_⟩
  refine PySem.W.methodCall_KW (ld_glob I hg hm ?_ hdb) hc
  obtain ⟨m, fr⟩ := I.fr
  refine PySem.W.method_of_cls fr I.ok.mod.kin T.sp (PySem.W.cls_val fr I.ok.mod.kin T.ty T.rd T.fc (by decide +kernel) ?_)
  show wpAny _ _ (callWith pos (Value.builtin "ValueError.__init__") [] (backTo pos (starEach (e :: es) X.env)) []) _ _ _
  refine PyProof.Rows.callWith_method1 (thn (ha.run pos pins _ σ H _ (I.tok _) h) fun us s1 ⟨vs, H1, I1, r1, a, C, ws, ev, hl, T, ea, q⟩ => ?_) he hpl
  subst ev
  cases r1 with
  | @cons _ u0 _ ur ra rw' =>
    obtain rfl : u0 = Value.ref a := ra
    have hlen : ur.length ≤ sizeLine := by
      rw [← Paired.length rw', sizeLine_eq]
      omega
    exact oinit_ok T I1 ea hlen fun s' J => ⟨.non, H1, J, rfl, q⟩
end
/-- def __init__(self, place, reason): Base.__init__(self, reason); self.place = place; self.reason = reason -/
theorem init_ok {P : Program} {w : World} {K : Fg} {mg : Str → Option Value} {base : Heap} {x qual xb : Str} {params : Arguments} {scope : Scope} {f B C : Addr} {fd : FuncData}
    {p1 p2 p3 p4 p5 p6 p7 p8 p9 p10 p11 p12 p13 p14 : Pos} {pm : BaseI K B} (hm : mg xb = some (.ref B)) (T : OexC K C) (f1 : PySem.W.findIn K (.ref C) "place" = some none) (f2 : PySem.W.findIn K (.ref C) "reason" = some none)
    (hdb : (xb == ("__debug__" : Str)) = false) (S : FnScope ["self", "place", "reason"] ["self", "place", "reason"] scope)
    (hn : scope.names.lookup xb = some .globalImplicit) (h0 : scope.names.lookup ("self" : Str) = some .local) (h1 : scope.names.lookup ("place" : Str) = some .local) (h2 : scope.names.lookup ("reason" : Str) = some .local) (hline : (p2.endLine == p5.line) = true)
    (F : FunD K x qual params [.Expr (.Call (.Attribute (.Name xb p1) "__init__" p2) [.Name "self" p3, .Name "reason" p4] [] p5) p6,
      .Assign [.Attribute (.Name "self" p7) "place" p8] (.Name "place" p9) p10, .Assign [.Attribute (.Name "self" p11) "reason" p12] (.Name "reason" p13) p14] scope [] [] f fd) :
    FnOk P w K mg base (L2.CX P w) 1 f fd ["self", "place", "reason"] (spI C) := by
  refine F.ok S (fun vs H Q E h => ?_) fun cdv A outer s H vs Q E hr h => ⟨_, pss_cons (ps_expr (pe_baseinit (B := B) hn hm pm (pa_cons (pe_var (i := 0) rfl (.inl h0) (by decide) (by decide)) (pa_cons (pe_var (i := 2) rfl (.inl h2) (by decide) (by decide)) pa_nil)) hdb (pl := (do return (← importBound (.Name xb p1) _).getD true)) (by
      show (do
        let ov ← attributeBase (.Name xb p1) "__init__" _ (eval (.Name xb p1) _)
        standAt p2.atName
        methodCall (.Name xb p1) "__init__" p2 p5 _ ov 2 (backTo p5 (starEach _ _)) (backToKw p5 (keywordEach [] _))) = _
      unfold methodCall methodCallPos
      rw [hline]
      rfl)))
    (pss_cons (ps_ost (pe_var (i := 0) rfl (.inl h0) (by decide) (by decide)) (pe_var (i := 1) rfl (.inl h1) (by decide) (by decide))) (pss_one (ps_ost (pe_var (i := 0) rfl (.inl h0) (by decide) (by decide)) (pe_var (i := 2) rfl (.inl h2) (by decide) (by decide))))), ?_⟩
  · obtain ⟨a, p, r, rfl, _⟩ := h
    rfl
  · obtain ⟨a, p, r, rfl, ha, q⟩ := h
    refine ⟨_, rfl, _, rfl, a, C, _, rfl, by simp, T, ha, ?_⟩
    refine ⟨_, rfl, _, rfl, a, C, rfl, T, f1, .inl ⟨ha, fun dx hn hne => ?_⟩⟩
    refine ⟨_, rfl, _, rfl, a, C, rfl, T, f2, .inr ⟨dx, [("place", p)], upd_same, by rw [upd_ne hne, upd_same], by simp, ?_⟩⟩
    exact q dx hn hne

/-! ### raise -/
section
variable {T : Tb} {n : Nat} {C : CC} {X : Cx} {W : XW}
theorem raise_ok (G : Good T n C X W) {x : Str} {p p1 p2 : Pos} {a : Expr} {as : List Expr} {c : Nat} {es : List E} (hg : C.glob x = true) (hc : C.G.lookup x = some (.cls c)) (h0 : c ≠ 0) (h : cEs (cE C 1000) (a :: as) = some es) :
    PS X (.Raise (some (.Call (.Name x p) (a :: as) [] p1)) none p2) (rdS X.K T.ec W (ex (callN T.prog n) (.raise c es))) := by
  obtain ⟨a', as', h1, h2, rfl⟩ := cEs_cons h
  rw [G.G] at hc
  obtain ⟨g1, g2⟩ := G.F.cls x c hc
  obtain ⟨O, hfs⟩ := G.F.xok c (g2 h0)
  rw [G.K, G.prog, G.w, G.mg, G.base] at O
  obtain ⟨fI, fd, iC, tI, hb, F1⟩ := O.ini
  have hm : X.mg x = some (.ref (T.ec c).1) := by rw [← G.mg]; exact g1
  have ha := pa_of (T := T) (cf := callN T.prog n) (W := W) h fun e E' h => (expr_ok G 1000 e E' h).1
  refine ps_imp (ps_raise (W := fun c d _ H => W c d H) G.calm G.tk (pmk_oex O.oex iC tI F1 (G.hr.mono (by omega)) hb .nil passL (glob_gl hg |> G.gl) hm ha (G.F.nm x _ hc) (star_of h1) (back_any h2))) fun D σ H ⟨env, st, m, r, p⟩ => ?_
  rw [ex] at p
  refine rdA_step (f := evs (callN T.prog n) (a' :: as')) r p fun m1 st1 H1 vs ws r1 a1 rvs p1 => ?_
  cases rvs with
  | nil => exact p1.elim
  | @cons v w vs ws rv rvs =>
    cases rvs with
    | nil => cases w <;> exact p1.elim
    | @cons v2 w2 vs ws rv2 rvs =>
      cases w with
      | loc l => exact p1.elim
      | d x1 =>
        cases w2 with
        | loc l => exact p1.elim
        | d x2 =>
          cases rvs with
          | cons _ _ => exact p1.elim
          | nil =>
            refine ⟨by simp, fun ad had => ⟨ad, v, v2, rfl, upd_same, fun dx hdx hne => ⟨rfl, dx, [("reason", v2), ("place", v)], ?_, upd_same, ?_, ?_⟩⟩⟩
            · rw [upd_ne (Ne.symm hne), upd_same]
            · rw [upd_ne hne] at hdx; exact hdx
            · have hdx' : H1 dx = none := by rw [upd_ne hne] at hdx; exact hdx
              have e : upd (del (upd (upd (upd (upd H1 ad (exo ad (T.ec c).1 none)) dx (exd dx [("place", v)])) ad (exo ad (T.ec c).1 (some dx))) dx (exd dx [("reason", v2), ("place", v)])) ad) dx (.xd [("reason", v2), ("place", v)]) = upd H1 dx (.xd [("reason", v2), ("place", v)]) := by
                funext b
                by_cases hb : b = dx
                · rw [hb, upd_same, upd_same]
                · rw [upd_ne hb, upd_ne hb]
                  by_cases hb2 : b = ad
                  · rw [hb2, del_same]; exact had.symm
                  · rw [del_ne hb2, upd_ne hb, upd_ne hb2, upd_ne hb, upd_ne hb2]
              rw [e]
              have A := aft_new (u := .xd [("reason", v2), ("place", v)]) r1.s hdx'
              exact p1 m1 _ _ _ A (r1.s.data hdx') ⟨g2 h0, rfl, dx, _, rfl, upd_same, by rw [hfs]; rfl, .cons (RD.aft A rv2) (.cons (RD.aft A rv) .nil)⟩
end
end PI
/-! SND10: try .. except, all statements. -/
namespace PI
open PySem PySem.Spec PyProof.Rows L2

/-! ### what an except suite answers -/
/-- a constant as a value, in any context -/
def rdC (K : Fg) (ec : EC) (W : XW) (d : D) : TE := fun σ H Q => ∃ m st, RelS K H m st ∧ Post K ec W m st.length H (.ok (.d d) st) (RV K) Q
def conV : Const → V
  | .bool b => .bl b
  | .int i => .int i
  | .str s => .str s
  | _ => .non
theorem con_pe {k : Const} {d : D} (h : cConst k = some d) {X : Cx} {j : Nat} {pos : Pos} : PE X (.Constant k j pos) (tC (conV k)) := by
  cases k with
  | none => exact pe_non
  | bool b => exact pe_bl
  | int i => exact pe_int
  | str s => exact pe_str
  | _ => cases h
theorem con_rd {k : Const} {d : D} (h : cConst k = some d) {K : Fg} {H : Hp} {B : Addr → Prop} : RD K H B (conV k) d := by
  cases k with
  | none => cases h; exact .non
  | bool b => cases h; exact .bl b
  | int i => cases h; exact .int i
  | str s =>
    simp only [cConst] at h
    split at h
    · rename_i hc
      cases h
      obtain ⟨h1, h2⟩ := Bool.and_eq_true_iff.mp hc
      refine .str s h1 ?_
      have := of_decide_eq_true h2
      show s.cps.size ≤ sizeLine
      rw [sizeLine_eq]
      omega
    · cases h
  | _ => cases h
theorem consts_ok {X : Cx} : ∀ {es : List Expr} {ds : List D}, cD.cDs es = some ds → ∃ vs, PA X es (fun σ H Q => Q vs H) ∧ ∀ K H B, RDs K H B vs ds
  | [], ds, h => by
    cases h
    exact ⟨[], pa_imp pa_nil fun _ _ _ h => h, fun _ _ _ => .nil⟩
  | e :: es, ds, h => by
    cases e with
    | Constant k j p =>
      unfold cD.cDs at h
      split at h
      · rename_i d ds' h1 h2
        cases h
        obtain ⟨vs, p1, p2⟩ := consts_ok (X := X) h2
        exact ⟨conV k :: vs, pa_imp (pa_cons (con_pe h1) p1) fun σ H Q h => h, fun K H B => .cons (con_rd h1) (p2 K H B)⟩
      · cases h
    | _ => cases h
theorem cDs_len : ∀ {es : List Expr} {ds : List D}, cD.cDs es = some ds → ds.length = es.length
  | [], ds, h => by cases h; rfl
  | e :: es, ds, h => by
    cases e with
    | Constant k j p =>
      unfold cD.cDs at h
      split at h
      · rename_i d ds' h1 h2
        cases h
        simp [cDs_len h2]
      · cases h
    | _ => cases h
/-- a constant expression, in any context -/
theorem cD_ok {X : Cx} {ec : EC} {W : XW} {e : Expr} {d : D} (h : cD e = some d) : PE X e (fun σ H Q => ∃ m st, RelS X.K H m st ∧ Post X.K ec W m st.length H (.ok (.d d) st) (RV X.K) Q) := by
  cases e with
  | Constant k j pos =>
    exact pe_imp (con_pe h) fun σ H Q ⟨m, st, R, p⟩ => post_data R p (con_rd h)
  | Tuple es j pos =>
    simp only [cD] at h
    split at h
    · rename_i hz
      obtain ⟨ds, hds, rfl⟩ := Option.map_eq_some_iff.mp h
      obtain ⟨vs, p1, p2⟩ := consts_ok (X := X) hds
      refine pe_imp (pe_tup p1) fun σ H Q ⟨m, st, R, p⟩ => ⟨by rw [(p2 X.K H (fun _ => False)).length, cDs_len hds, sizeLine_eq]; omega, fun q hq => post_tup R p (p2 _ _ _) hq⟩
    · cases h
  | _ => cases h

/-! ### the contexts of a try -/
section
variable {T : Tb} {n : Nat} {C : CC} {X : Cx} {W : XW}
theorem Good.tr (G : Good T n C X W) {W1 : WX} {pn : List (Addr × PySem.Obj)} {xe : Value → Shared → Prop} (tk : Takes (X.tr pn xe) W1) (po : PassesOwn (model X.prog X.w) X.A X.env xe) :
    Good T n C (X.tr pn xe) (fun c d H => ∀ σ, σ.length = X.N.length → W1 c d σ H) where
  prog := G.prog
  w := G.w
  K := G.K
  mg := G.mg
  base := G.base
  N := G.N
  sc := G.sc
  G := G.G
  hr := G.hr
  stk := G.stk
  frm := G.frm
  calm := G.calm
  nd := G.nd
  nm := G.nm
  fnl := G.fnl
  tk := fun u s' ⟨a, B, sI, pins, σ, H, cls, d, e, I, nb, up, sky, na, os, ag, w⟩ => tk u s' ⟨a, B, sI, pins, σ, H, cls, d, e, I, nb, up, sky, na, os, ag, w σ I.len⟩
  po := po
  F := G.F
  ok := G.ok
/-- an except clause's class -/
theorem Good.names (G : Good T n C X W) {x : Str} {c : Nat} (hg : C.glob x = true) (hc : C.G.lookup x = some (.cls c)) : Names X x (.ref (T.ec c).1) := by
  rw [G.G] at hc
  exact ⟨G.gl (glob_gl hg), G.F.nm x _ hc, .inl (by rw [← G.mg]; exact (G.F.cls x c hc).1)⟩

/-! ### the caught error -/
/-- isinstance(e, D) of the caught error -/
theorem call_isD {X : Cx} {a A : Addr} {oe : PySem.Obj} {d : Addr} {pn : List (Addr × PySem.Obj)} {P : Program} {w : World} {mg : Str → Option Value} {base : Heap} (O : XOk P w X.K mg base A) (hz : Zc (.ref A) (some d) oe) (hf : ∃ vs, oe.data = .fields vs)
    {u : Value} {b : Bool} (hk : PySem.W.kitOne X.K (.ref A) u = some b) :
    CallR (X.suite a ((a, oe) :: pn)) (.builtin "isinstance") (fun xs H Q => ∃ (c : V) (fs : List (Str × V)), xs = [.ref a, c] ∧ (∀ u', RelV c u' → u' = u) ∧ H d = some (.xd fs) ∧ Q (.bl b) H) := by
  intro pins s σ H xs us Q I r h
  obtain ⟨c, fs, rfl, hcv, hd, q⟩ := h
  cases r with
  | cons rx rr =>
    cases rr with
    | cons rt rr =>
      cases rr
      cases rx
      have ec := hcv _ rt
      subst ec
      obtain ⟨hget, _⟩ := I.pin (a, oe) (List.mem_append.mpr (.inl List.mem_cons_self))
      obtain ⟨vs, hv⟩ := hf
      have hx : ObjOk X.prog X.w H s.heap d (.xd fs) := I.hok d _ hd
      obtain ⟨mA, ⟨od, es, ep, ho, hr⟩, _⟩ := hx
      have J : PySem.W.InstAt s.heap a oe A (some od) := ⟨hget, hz.1, by unfold PySem.W.notCls; rw [hv] <;> rfl, by rw [hz.2]; exact ho⟩
      exact PySem.W.kia_one (PySem.W.kitx_exc O.cl O.xf.ga O.xf.gg O.xf.exC O.ha O.hn O.ht O.hm) I.kIn J hk (fun z => nomatch z) fun tk => ⟨.bl b, H, I.kept (t' := tk) fun _ _ z => z, rfl, q⟩

end
/-! ### the suites -/
theorem iteT' {b : Bool} (h : b = true) {p q : Prop} (hp : p) : if b = true then p else q := by rw [if_pos h]; exact hp
theorem iteF' {b : Bool} (h : b = false) {p q : Prop} (hq : q) : if b = true then p else q := by rw [h, if_neg Bool.false_ne_true]; exact hq
section
variable {T : Tb} {n : Nat} {C : CC} {X : Cx} {W : XW} {a dd : Addr} {oe : PySem.Obj} {pn : List (Addr × PySem.Obj)} {c i : Nat}
/-- the caught error stands: its two fields -/
def Caught (a dd : Addr) (i : Nat) (vr vp : V) (σ : L2.St) (H : Hp) : Prop := σ[i]? = some (some (.ref a)) ∧ H dd = some (.xd [("reason", vr), ("place", vp)])
theorem slotY (G : Good T n C X W) {x : Str} {p : Pos} (h : C.slot x = some i) : PE (X.suite a ((a, oe) :: pn)) (.Name x p) (tVar i) := by
  obtain ⟨h1, h2⟩ := slot_vis h
  obtain ⟨h3, h4⟩ := G.nm x (List.mem_of_getElem? h1)
  exact pe_var (X := X.suite a ((a, oe) :: pn)) (show X.N[i]? = some x by rw [G.N]; exact h1) (G.vis h2) h3 h4
theorem isa_ok (G : Good T n C X W) {e : Expr} {c1 : Nat} (h : cIsa C i e = some c1) (hc : (T.ec c).2.2 = true) (hz : Zc (.ref (T.ec c).1) (some dd) oe) (hf : ∃ vs, oe.data = .fields vs) :
    PE (X.suite a ((a, oe) :: pn)) e (fun σ H Q => ∃ vr vp, Caught a dd i vr vp σ H ∧ Q (.bl (subCls c c1)) H) ∧ ∀ whole, PySem.isTrue e X.env whole = (do let v ← whole; standAt e.pos; holding [v] (PySem.truthy v)) := by
  unfold cIsa at h
  split at h
  · rename_i f pf x px t pt pos
    split at h
    · rename_i hb
      obtain ⟨hb, h4⟩ := Bool.and_eq_true_iff.mp hb
      obtain ⟨hb, h3⟩ := Bool.and_eq_true_iff.mp hb
      obtain ⟨h1, h2⟩ := Bool.and_eq_true_iff.mp hb
      have e1 : f = "isinstance" := of_decide_eq_true h1
      have e3 : C.slot x = some i := of_decide_eq_true h3
      subst e1
      split at h
      · rename_i c' hl
        cases h
        rw [G.G] at hl
        obtain ⟨O, hfs⟩ := G.F.xok c hc
        rw [G.K, G.prog, G.w, G.mg, G.base] at O
        have hk := (G.F.exm c t c1 hc hl).2
        rw [G.K] at hk
        have hmt : X.mg t = some (.ref (T.ec c1).1) := by rw [← G.mg]; exact (G.F.cls t c1 hl).1
        refine ⟨pe_imp (pe_callB (X := X.suite a ((a, oe) :: pn)) (call_isD O hz hf hk) (G.gl (blt_gl h2)) (G.mgN (by decide)) boot_isi' (pa_cons (slotY G e3) (pa_cons (pe_glob (X := X.suite a ((a, oe) :: pn)) (v := .ref (T.ec c1).1) (G.gl (glob_gl h4)) hmt rfl (G.F.nm t _ hl)) pa_nil)) (by decide +kernel) (by decide +kernel))
          fun σ H Q ⟨vr, vp, ⟨q1, q2⟩, q⟩ => ⟨_, q1, .ref (T.ec c1).1, _, rfl, fun u hu => hu, q2, q⟩, fun _ => rfl⟩
      · cases h
    · cases h
  · cases h
theorem fields_ok (G : Good T n C X W) (hc : (T.ec c).2.2 = true) (hz : Zc (.ref (T.ec c).1) (some dd) oe) (hf : ∃ vs, oe.data = .fields vs) : ∀ {es : List Expr} {is : List Nat}, cFields i C es = some is →
    PA (X.suite a ((a, oe) :: pn)) es (fun σ H Q => ∃ vr vp, Caught a dd i vr vp σ H ∧ ∃ vs, is.mapM (fun (j : Nat) => [vr, vp][j]?) = some vs ∧ Q vs H)
  | [], is, h => by
    cases h
    exact pa_imp pa_nil fun σ H Q ⟨vr, vp, _, vs, e, q⟩ => by
      have : vs = [] := by simpa using e.symm
      subst this
      exact q
  | e :: es, is, h => by
    unfold cFields at h
    split at h
    · rename_i heq; cases heq
    · rename_i x p f p2 es' heq
      obtain ⟨rfl, rfl⟩ := List.cons.inj heq
      split at h
      · rename_i hs
        split at h
        · rename_i is' his
          obtain ⟨O, hfs⟩ := G.F.xok c hc
          rw [G.K, G.prog, G.w, G.mg, G.base] at O
          have ih := fields_ok G hc hz hf his
          have key : ∀ (f : Str) (j : Nat), (∀ vr vp : V, ([("reason", vr), ("place", vp)] : List (Str × V)).lookup f = [vr, vp][j]?) → PySem.W.findIn X.K (.ref (T.ec c).1) f = some none →
              PA (X.suite a ((a, oe) :: pn)) (.Attribute (.Name x p) f p2 :: es) (fun σ H Q => ∃ vr vp, Caught a dd i vr vp σ H ∧ ∃ vs, (j :: is').mapM (fun (j : Nat) => [vr, vp][j]?) = some vs ∧ Q vs H) := by
            intro f j hl hno
            refine pa_imp (pa_cons (pe_xf O.xf hno hz hf (slotY G hs)) ih) fun σ H Q ⟨vr, vp, ⟨q1, q2⟩, vs, e, q⟩ => ?_
            rw [List.mapM_cons] at e
            cases e1 : [vr, vp][j]? with
            | none => rw [e1] at e; cases e
            | some v =>
              cases e2 : is'.mapM (fun (j : Nat) => [vr, vp][j]?) with
              | none => rw [e1, e2] at e; cases e
              | some vs' =>
                rw [e1, e2] at e
                have : vs = v :: vs' := by simpa using e.symm
                subst this
                exact ⟨_, q1, rfl, rfl, dd, _, v, rfl, q2, by rw [hl]; exact e1, vr, vp, ⟨q1, q2⟩, vs', e2, q⟩
          split at h
          · rename_i ef
            cases h
            subst ef
            exact key "place" 1 (fun vr vp => rfl) O.f1
          · split at h
            · rename_i ef
              cases h
              subst ef
              exact key "reason" 0 (fun vr vp => rfl) O.f2
            · cases h
        · cases h
      · cases h
    · cases h
theorem mapM_rds {K : Fg} {H : Hp} {B : Addr → Prop} {vs : List V} {ds : List D} (r : RDs K H B vs ds) : ∀ {is : List Nat} {es : List D}, is.mapM (fun (j : Nat) => ds[j]?) = some es → ∃ ws, is.mapM (fun (j : Nat) => vs[j]?) = some ws ∧ RDs K H B ws es
  | [], es, h => by
    have : es = [] := by simpa using h.symm
    subst this
    exact ⟨[], rfl, .nil⟩
  | i :: is, es, h => by
    rw [List.mapM_cons] at h
    cases e1 : ds[i]? with
    | none => rw [e1] at h; cases h
    | some d =>
      cases e2 : is.mapM (fun (j : Nat) => ds[j]?) with
      | none => rw [e1, e2] at h; cases h
      | some es' =>
        rw [e1, e2] at h
        have : es = d :: es' := by simpa using h.symm
        subst this
        obtain ⟨v, g1, g2⟩ := r.get e1
        obtain ⟨ws, g3, g4⟩ := mapM_rds r e2
        exact ⟨v :: ws, by rw [List.mapM_cons, g1, g3]; rfl, .cons g2 g4⟩
theorem cFields_len : ∀ {es : List Expr} {is : List Nat}, cFields i C es = some is → is.length = es.length
  | [], is, h => by cases h; rfl
  | e :: es, is, h => by
    unfold cFields at h
    split at h
    · rename_i heq; cases heq
    · rename_i x p f p2 es' heq
      obtain ⟨rfl, rfl⟩ := List.cons.inj heq
      split at h
      · split at h
        · rename_i is' his
          have := cFields_len his
          split at h
          · cases h; simp [this]
          · split at h
            · cases h; simp [this]
            · cases h
        · cases h
      · cases h
    · cases h
theorem mapM_len {α β : Type} {f : α → Option β} : ∀ {l : List α} {r : List β}, l.mapM f = some r → r.length = l.length
  | [], r, h => by
    have : r = [] := by simpa using h.symm
    subst this; rfl
  | x :: l, r, h => by
    rw [List.mapM_cons] at h
    cases e1 : f x with
    | none => rw [e1] at h; cases h
    | some d =>
      cases e2 : l.mapM f with
      | none => rw [e1, e2] at h; cases h
      | some es' =>
        rw [e1, e2] at h
        have : r = d :: es' := by simpa using h.symm
        subst this
        simp [mapM_len e2]
/-- what a suite asks -/
def rdH (T : Tb) (K : Fg) (W : XW) (a : Addr) (i : Nat) (h : Hd) (cls : Value) (d : Option Addr) : TS := fun D σ H => ∃ (x : Exn) (m : Mp) (st : Store), RelS K H m st ∧ ExnR K T.ec H m st.length cls d x ∧ (match h with | .con _ => True | _ => σ[i]? = some (some (.ref a))) ∧
  Post K T.ec W m st.length H (match hdRes h x with | some d => R.ok (.rt (.d d)) st | none => .bad) (relF K) (endAt D)
theorem suite_ok (G : Good T n C X W) {ss : List Stmt} {h : Hd} (hs : cSuite C i ss = some h) {cls : Value} {d : Option Addr} (hz : Zc cls d oe) (hf : ∃ vs, oe.data = .fields vs) : PSs (X.suite a ((a, oe) :: pn)) ss (rdH T X.K W a i h cls d) := by
  refine ⟨fun pins s σ H D I hw => ?_⟩
  obtain ⟨x, m, st, R, ⟨hc, rfl, dd, fs, rfl, hd, hfn, hrd⟩, hσ, p⟩ := hw
  obtain ⟨O, hfs⟩ := G.F.xok x.c hc
  have hfs2 : ∃ vr vp, fs = [(("reason" : Str), vr), (("place" : Str), vp)] := by
    rw [hfs] at hfn
    match fs, hfn with
    | [(a, b), (c, d)], hfn =>
      simp at hfn
      obtain ⟨rfl, rfl⟩ := hfn
      exact ⟨b, d, rfl⟩
  obtain ⟨vr, vp, rfl⟩ := hfs2
  unfold cSuite at hs
  split at hs
  · rename_i t es k1 p1 p2 p3 j p4 p5
    split at hs
    · rename_i hl
      split at hs
      · rename_i c1 is h1 h2
        cases hs
        have hcg : Caught a dd i vr vp σ H := ⟨hσ, hd⟩
        obtain ⟨i1, i2⟩ := isa_ok (a := a) (pn := pn) (oe := oe) G h1 hc hz hf
        refine (pss_cons (ps_if (pt_val i1 i2) (pss_one (ps_ret (pe_tup (fields_ok (a := a) (pn := pn) (oe := oe) G hc hz hf h2)))) pss_nil) (pss_one (ps_ret pe_non))).run pins s σ H D I ?_
        refine ⟨vr, vp, hcg, subCls x.c c1, rfl, ?_⟩
        simp only [hdRes] at p
        by_cases hsub : subCls x.c c1 = true
        · rw [if_pos hsub] at p
          refine iteT' hsub ?_
          cases e1 : fieldsAt x.args is with
          | none => rw [e1] at p; exact p.elim
          | some es' =>
            rw [e1] at p
            obtain ⟨ws, g1, g2⟩ := mapM_rds hrd e1
            refine ⟨vr, vp, hcg, ws, g1, ?_, fun q hq => ?_⟩
            · have := mapM_len g1
              rw [this, cFields_len h2, sizeLine_eq]
              omega
            · exact p m _ (.rt (.ref q)) (aft_new R hq) (R.data hq) (tup_new R hq g2)
        · rw [if_neg hsub] at p
          refine iteF' (by simpa using hsub) ?_
          exact p m H (.rt .non) Aft.refl R .non
      · cases hs
    · cases hs
  · rename_i e p1
    cases h1 : cIsa C i e with
    | none => rw [h1] at hs; cases hs
    | some c1 =>
      rw [h1] at hs; cases hs
      obtain ⟨i1, i2⟩ := isa_ok (a := a) (pn := pn) (oe := oe) G h1 hc hz hf
      refine (pss_one (ps_ret i1)).run pins s σ H D I ?_
      exact ⟨vr, vp, ⟨hσ, hd⟩, p m H (.rt (.bl _)) Aft.refl R (.bl _)⟩
  · cases hs
end
end PI
/-! SND11: all statements, sound. -/
namespace PI
open PySem PySem.Spec PyProof.Rows L2
section
variable {T : Tb} {n : Nat} {C : CC} {X : Cx} {W : XW}
theorem stmts_ok {f : Stmt → Option S} {ex1 : S → Env → Store → R Fl} (cf : CF) (ih : ∀ s S', f s = some S' → PS X s (rdS X.K T.ec W (ex cf S'))) : ∀ (ss : List Stmt) (Ss : List S), cSs f ss = some Ss → PSs X ss (rdS X.K T.ec W (exs cf Ss))
  | [], Ss, h => by
    cases h
    exact pss_imp pss_nil fun D σ H ⟨env, st, m, r, p⟩ => p m H (.nx σ) Aft.refl r.s r.re
  | s :: ss, Ss, h => by
    unfold cSs at h
    split at h
    · rename_i a e1
      split at h
      · rename_i as e2
        cases h
        refine pss_imp (pss_cons (ih s a e1) (stmts_ok (ex1 := ex1) cf ih ss as e2)) fun D σ H ⟨env, st, m, r, p⟩ => ?_
        rw [exs] at p
        refine ⟨env, st, m, r, fl_step p ?_ ?_ ?_ ?_⟩
        · exact fun m2 st2 H2 σ2 env2 r2 a2 p2 => ⟨env2, st2, m2, r2, p2⟩
        · exact fun m2 st2 H2 v w s2 a2 rv p2 => p2 m2 H2 (.rt v) Aft.refl s2 rv
        · exact fun m2 st2 H2 σ2 env2 r2 a2 p2 => p2 m2 H2 (.bk σ2) Aft.refl r2.s r2.re
        · exact fun m2 st2 H2 σ2 env2 r2 a2 p2 => p2 m2 H2 (.ct σ2) Aft.refl r2.s r2.re
      · cases h
    · cases h

/-- the body of a try -/
theorem try_body {cf : CF} {b : List S} {c : Nat} {h : Hd} {K : Fg} {ec : EC} {D : L2.Ends} {σ : L2.St} {H : Hp} {len : Nat} {W1 : WX}
    (hw : ∀ (x : Exn) (st' : Store) (m m' : Mp) (st : Store) (H H' : Hp) (cls : Value) (d : Option Addr), Aft m st.length H m' st'.length H' → RelS K H' m' st' → ExnR K ec H' m' st'.length cls d x →
      Post K ec W m st.length H (if subCls x.c c then (match hdRes h x with | some d => R.ok (.rt (.d d)) st' | none => .bad) else .exc x st') (relF K) (endAt D) → ∀ σ, σ.length = len → W1 cls d σ H')
    (q : rdS K ec W (ex cf (.try_ b c h)) D σ H) : rdS K ec (fun c d H => ∀ σ, σ.length = len → W1 c d σ H) (exs cf b) D σ H := by
  obtain ⟨env, st, m, r, p⟩ := q
  refine ⟨env, st, m, r, ?_⟩
  rw [ex] at p
  cases e : exs cf b env st with
  | ok f st' => rw [e] at p; exact p
  | bad => rw [e] at p; exact p.elim
  | exc x st' =>
    rw [e] at p
    exact fun m' H' cls d A R' X' => hw x st' m m' st H H' cls d A R' X' p
theorem stmt_ok : ∀ (k : Nat) {X : Cx} {W : XW} (G : Good T n C X W) (s : Stmt) (S' : S), cS C k s = some S' → PS X s (rdS X.K T.ec W (ex (callN T.prog n) S')) := by
  intro k
  induction k with
  | zero => intro X W G s S' h; cases h
  | succ k ih0 =>
    intro X W G
    have ih := ih0 G
    have ihs : ∀ (ss : List Stmt) (Ss : List S), cSs (cS C k) ss = some Ss → PSs X ss (rdS X.K T.ec W (exs (callN T.prog n) Ss)) := fun ss Ss h => stmts_ok (ex1 := ex (callN T.prog n)) _ ih ss Ss h
    have ee : ∀ e E', cE C 1000 e = some E' → PE X e (rd X.K T.ec W (ev (callN T.prog n) E')) := fun e E' h => (expr_ok G 1000 e E' h).1
    have et : ∀ e E', cE C 1000 e = some E' → PT X e (rdT X.K T.ec W (tr (callN T.prog n) E')) := fun e E' h => (expr_ok G 1000 e E' h).2
    intro s S' h
    unfold cS at h
    split at h
    · -- target = value
      rename_i t e pos
      split at h
      · rename_i hb
        split at h
        · rename_i t' e' h1 h2
          cases h
          refine ps_imp (ps_asg (ee e e' h2) (target_ok G h1) (by rw [swapsWithSole_one]; exact swaps_of h2) (swapped_none h1 hb) (each_one h1)) fun D σ H ⟨env, st, m, r, p⟩ => ?_
          rw [ex] at p
          refine rd_step r p fun m1 st1 H1 v w r1 a1 rv p1 => ?_
          refine ⟨env, st1, m1, w, r1, rv, en_step p1 fun m3 st3 H3 σ3 env3 r3 a3 p3 => ?_⟩
          exact p3 m3 H3 (.nx σ3) Aft.refl r3.s r3.re
        · cases h
      · cases h
    · -- name op= value
      rename_i x p o e pos
      split at h
      · rename_i i o' e' h1 h2 h3
        cases h
        obtain ⟨g1, g2⟩ := own_loc h1
        have hl := G.loc g2
        refine ps_imp (ps_aug (by rw [G.N]; exact G.nd) (by rw [G.N]; exact g1) hl (ee e e' h3) (ip_ok (K := X.K) (ec := T.ec) (W := W) h2) (G.fnl x hl)) fun D σ H ⟨env, st, m, r, p⟩ => ?_
        rw [ex] at p
        cases e1 : env[i]? with
        | none => rw [e1] at p; exact p.elim
        | some w0 =>
          rw [e1] at p
          cases w0 with
          | none => exact p.elim
          | some w0 =>
            obtain ⟨v0, g3, g4⟩ := r.e i w0 e1
            refine ⟨v0, g3, ?_⟩
            refine rd_step r p fun m1 st1 H1 v w r1 a1 rv p1 => ?_
            refine ⟨m1, st1, w0, w, r1.s, g4.aft a1, rv, ?_⟩
            refine (Post.bind (rel1 := RV X.K) p1).imp fun z H2 ⟨m2, st2, w2, a2, s2, rv2, p2⟩ => ?_
            have r2 := r1.aft a2 s2
            exact p2 m2 H2 (.nx _) Aft.refl s2 (r2.re.set rv2 i)
      · cases h
    · -- an expression
      rename_i e pos
      cases h1 : cE C 1000 e with
      | none => rw [h1] at h; cases h
      | some e' =>
        rw [h1] at h; cases h
        refine ps_imp (ps_expr (ee e e' h1) (swaps_of h1)) fun D σ H ⟨env, st, m, r, p⟩ => ?_
        rw [ex] at p
        refine rd_step r p fun m1 st1 H1 v w r1 a1 rv p1 => ?_
        exact p1 m1 H1 (.nx σ) Aft.refl r1.s r1.re
    · -- return value
      rename_i e pos
      cases h1 : cE C 1000 e with
      | none => rw [h1] at h; cases h
      | some e' =>
        rw [h1] at h; cases h
        refine ps_imp (ps_ret (ee e e' h1)) fun D σ H ⟨env, st, m, r, p⟩ => ?_
        rw [ex] at p
        refine rd_step r p fun m1 st1 H1 v w r1 a1 rv p1 => ?_
        exact p1 m1 H1 (.rt v) Aft.refl r1.s rv
    · cases h
      exact ps_imp ps_retN fun D σ H ⟨env, st, m, r, p⟩ => p m H (.rt .non) Aft.refl r.s .non
    · -- if
      rename_i c a b pos
      split at h
      · rename_i c' a' b' h1 h2 h3
        cases h
        refine ps_imp (ps_if (et c c' h1) (ihs a a' h2) (ihs b b' h3)) fun D σ H ⟨env, st, m, r, p⟩ => ?_
        rw [ex] at p
        refine rdT_step r p fun m1 st1 H1 w r1 a1 p1 => ?_
        cases w with
        | true => exact ⟨env, st1, m1, r1, p1⟩
        | false => exact ⟨env, st1, m1, r1, p1⟩
      · cases h
    · -- while
      rename_i c b pos
      split at h
      · rename_i c' b' h1 h2
        cases h
        refine ps_imp (ps_while G.po (et c c' h1) (ihs b b' h2)) fun D σ H ⟨env, st, m, r, p⟩ => ?_
        rw [ex] at p
        exact whs _ _ fuel env st m D σ H r p
      · cases h
    · -- for
      rename_i t it b pos
      split at h
      · rename_i t' it' b' h1 h2 h3
        cases h
        obtain ⟨g1, g2⟩ := it_ok G (tg := t) h2
        exact ps_imp (ps_for G.po G.calm g1 (target_ok G h1) (ihs b b' h3) g2) fun D σ H ⟨env, st, m, r, p⟩ => for_ok _ _ ⟨env, st, m, r, by rw [ex] at p; exact p⟩
      · cases h
    · cases h
      exact ps_imp ps_break fun D σ H ⟨env, st, m, r, p⟩ => p m H (.bk σ) Aft.refl r.s r.re
    · cases h
      exact ps_imp ps_continue fun D σ H ⟨env, st, m, r, p⟩ => p m H (.ct σ) Aft.refl r.s r.re
    · cases h
      exact ps_imp ps_pass fun D σ H ⟨env, st, m, r, p⟩ => p m H (.nx σ) Aft.refl r.s r.re
    · -- raise
      rename_i x p a as p1 p2
      split at h
      · rename_i hg
        split at h
        · rename_i c h1
          split at h
          · cases h
          · rename_i h0
            cases h2 : cEs (cE C 1000) (a :: as) with
            | none => rw [h2] at h; cases h
            | some es =>
              rw [h2] at h; cases h
              exact raise_ok G hg h1 h0 h2
        · cases h
      · cases h
    · -- try
      rename_i b hd pos
      split at h
      · rename_i b' c hh h1 h2
        cases h
        unfold cHd at h2
        split at h2
        · -- except X: return constant
          rename_i x np e p1 p2
          split at h2
          · rename_i hg
            split at h2
            · rename_i c' hl
              cases hd : cD e with
              | none => rw [hd] at h2; cases h2
              | some d0 =>
                rw [hd] at h2; cases h2
                refine ps_imp (ps_try_only (Wout := fun c d _ H => W c d H) (tb := fun W1 => rdS X.K T.ec (fun c d H => ∀ σ, σ.length = X.N.length → W1 c d σ H) (exs (callN T.prog n) b')) (ts := fun a cls d => tRet (fun σ H Q => ∃ m st, RelS X.K H m st ∧ Post X.K T.ec W m st.length H (.ok (.d d0) st) (RV X.K) Q)) G.stk G.frm (G.names hg hl) G.tk
                  (fun W1 pn xe tk po => stmts_ok (X := X.tr pn xe) (ex1 := ex (callN T.prog n)) _ (ih0 (G.tr tk po)) b b' h1) (fun a oe cls d pn hz hf => pss_one (ps_ret (cD_ok (X := X.suite a ((a, oe) :: pn)) (ec := T.ec) (W := W) hd)))) fun D σ H q => ?_
                refine try_body (fun x st' m m' st H H' cls d A R' X' p σ hσ => ?_) q
                have p' := p.shift A (RelS.aft_has A R')
                obtain ⟨g1, rfl, g3⟩ := X'
                refine ⟨_, by rw [← G.K]; exact (G.F.exm x.c _ _ g1 (by rw [← G.G]; exact hl)).1, fun hs a na => ?_, fun hs => ?_⟩
                · rw [if_pos hs] at p'
                  refine ⟨m', st', R', ?_⟩
                  exact fun m2 H2 v a2 s2 rv => p' m2 H2 (.rt v) a2 s2 rv
                · rw [if_neg (by rw [hs]; exact Bool.false_ne_true)] at p'
                  exact p' m' H' _ _ Aft.refl R' ⟨g1, rfl, g3⟩
            · cases h2
          · cases h2
        · -- except X as n
          rename_i x np nm suite p2
          split at h2
          · rename_i hg
            split at h2
            · rename_i c' hl
              split at h2
              · rename_i hln
                split at h2
                · rename_i i hi
                  cases hs : cSuite C i suite with
                  | none => rw [hs] at h2; cases h2
                  | some h0 =>
                    rw [hs] at h2; cases h2
                    cases suite with
                    | nil => cases hs
                    | cons s0 ss0 =>
                    obtain ⟨o1, o2⟩ := own_loc hi
                    have hln' : X.env.kindOf nm = some .local := by
                      show X.env.scope.names.lookup nm = _
                      rw [G.sc]; exact hln
                    have hcon : ∀ d, hh ≠ .con d := by
                      intro d e
                      subst e
                      unfold cSuite at hs
                      split at hs
                      · split at hs
                        · split at hs <;> cases hs
                        · cases hs
                      · rename_i e p0 _
                        cases e1 : cIsa C i e with
                        | none => rw [e1] at hs; cases hs
                        | some c => rw [e1] at hs; cases hs
                      · cases hs
                    refine ps_imp (ps_try_as (i := i) (Wout := fun c d _ H => W c d H) (tb := fun W1 => rdS X.K T.ec (fun c d H => ∀ σ, σ.length = X.N.length → W1 c d σ H) (exs (callN T.prog n) b')) (ts := fun a cls d => rdH T X.K W a i hh cls d) G.stk G.frm (by rw [G.N]; exact G.nd) (by rw [G.N]; exact o1) hln' (G.names hg hl) G.tk
                      (fun W1 pn xe tk po => stmts_ok (X := X.tr pn xe) (ex1 := ex (callN T.prog n)) _ (ih0 (G.tr tk po)) b b' h1) (fun a oe cls d pn hz hf => suite_ok G hs hz hf)) fun D σ H q => ?_
                    refine try_body (fun x st' m m' st H H' cls d A R' X' p σ hσ => ?_) q
                    have p' := p.shift A (RelS.aft_has A R')
                    have g1 := X'.1
                    have g2 := X'.2.1
                    subst g2
                    refine ⟨_, by rw [← G.K]; exact (G.F.exm x.c _ _ g1 (by rw [← G.G]; exact hl)).1, fun hsb a na => ?_, fun hsb => ?_⟩
                    · rw [if_pos hsb] at p'
                      refine ⟨x, m', st', R', X', ?_, ?_⟩
                      · have hl2 : i < σ.length := by rw [hσ, G.N]; exact (List.getElem?_eq_some_iff.mp o1).1
                        cases hh with
                        | con _ => trivial
                        | fields _ _ => exact List.getElem?_set_self hl2
                        | isa _ => exact List.getElem?_set_self hl2
                      · cases e1 : hdRes hh x with
                        | none => rw [e1] at p'; exact p'.elim
                        | some d1 =>
                          rw [e1] at p'
                          intro m2 H2 v a2 s2 rv
                          cases v with
                          | rt v => exact p' m2 H2 (.rt v) a2 s2 rv
                          | _ => exact False.elim rv
                    · rw [if_neg (by rw [hsb]; exact Bool.false_ne_true)] at p'
                      exact p' m' H' _ _ Aft.refl R' X'
                · cases h2
              · cases h2
            · cases h2
          · cases h2
        · cases h2
      · cases h
    · cases h
end
end PI
/-! SND12: calls: the callee's store is a part of the caller's. -/
namespace PI
open PySem PySem.Spec PyProof.Rows L2

/-! ### lists -/
theorem mapM_at {α β : Type} {f : α → Option β} : ∀ {l : List α} {r : List β}, l.mapM f = some r → ∀ (i : Nat) (x : α), l[i]? = some x → ∃ y, r[i]? = some y ∧ f x = some y
  | [], r, h, i, x, e => by simp at e
  | a :: l, r, h, i, x, e => by
    rw [List.mapM_cons] at h
    cases e1 : f a with
    | none => rw [e1] at h; cases h
    | some d =>
      cases e2 : l.mapM f with
      | none => rw [e1, e2] at h; cases h
      | some r' =>
        rw [e1, e2] at h
        have : r = d :: r' := by simpa using h.symm
        subst this
        cases i with
        | zero => simp at e; subst e; exact ⟨d, rfl, e1⟩
        | succ i => exact mapM_at e2 i x (by simpa using e)
theorem mapM_at' {α β : Type} {f : α → Option β} {l : List α} {r : List β} (h : l.mapM f = some r) (i : Nat) (y : β) (e : r[i]? = some y) : ∃ x, l[i]? = some x ∧ f x = some y := by
  have hl := mapM_len h
  have hi : i < l.length := by rw [← hl]; exact (List.getElem?_eq_some_iff.mp e).1
  obtain ⟨y', e1, e2⟩ := mapM_at h i l[i] (List.getElem?_eq_getElem hi)
  rw [e] at e1; cases e1
  exact ⟨_, List.getElem?_eq_getElem hi, e2⟩
theorem renN_get {ord : List Nat} {l k : Nat} (h : renN ord l = some k) : ord[k]? = some l := by
  unfold renN at h
  obtain ⟨h1, h2, _⟩ := List.findIdx?_eq_some_iff_getElem.mp h
  rw [List.getElem?_eq_getElem h1]
  congr 1
  simpa using h2
theorem reach_nd (st : Store) : ∀ (n : Nat) (work acc : List Nat), acc.Nodup → (reach st n work acc).Nodup
  | 0, _, _, h => h
  | n + 1, [], _, h => h
  | n + 1, l :: work, acc, h => by
    unfold reach
    split
    · exact reach_nd st n work acc h
    · rename_i hc
      split
      · refine reach_nd st n _ _ ?_
        rw [List.nodup_append]
        refine ⟨h, by simp, fun a ha b hb e => ?_⟩
        have : b = l := by simpa using hb
        subst this; subst e
        exact hc (by simpa using ha)
      · exact reach_nd st n work acc h
theorem reach_lt (st : Store) : ∀ (n : Nat) (work acc : List Nat), (∀ l ∈ acc, l < st.length) → ∀ l ∈ reach st n work acc, l < st.length
  | 0, _, _, h => h
  | n + 1, [], _, h => h
  | n + 1, l :: work, acc, h => by
    unfold reach
    split
    · exact reach_lt st n work acc h
    · split
      · rename_i o e
        refine reach_lt st n _ _ fun k hk => ?_
        rcases List.mem_append.mp hk with hk | hk
        · exact h k hk
        · have : k = l := by simpa using hk
          subst this
          exact (List.getElem?_eq_some_iff.mp e).1
      · exact reach_lt st n work acc h
theorem putAll_ok : ∀ {ls : List Nat} {os : List Obj} {st st' : Store}, putAll ls os st = some st' → ls.Nodup → os.length = ls.length → (∀ l ∈ ls, l < st.length) →
    st'.length = st.length ∧ (∀ (i l : Nat) (o : Obj), ls[i]? = some l → os[i]? = some o → st'[l]? = some o) ∧ ∀ l, l ∉ ls → st'[l]? = st[l]?
  | [], os, st, st', h, _, _, _ => by
    cases h
    exact ⟨rfl, fun i l o e => by simp at e, fun _ _ => rfl⟩
  | l :: ls, [], st, st', h, _, hl, _ => by simp at hl
  | l :: ls, o :: os, st, st', h, nd, hl, hlt => by
    unfold putAll at h
    obtain ⟨nd1, nd2⟩ := List.nodup_cons.mp nd
    obtain ⟨h1, h2, h3⟩ := putAll_ok h nd2 (by simpa using hl) (fun k hk => by rw [List.length_set]; exact hlt k (List.mem_cons_of_mem _ hk))
    refine ⟨by simpa using h1, fun i k o' e1 e2 => ?_, fun k hk => ?_⟩
    · cases i with
      | zero =>
        have e1' : l = k := by simpa using e1
        have e2' : o = o' := by simpa using e2
        subst e1'; subst e2'
        rw [h3 l nd1]
        exact List.getElem?_set_self (hlt l (List.mem_cons_self ..))
      | succ i => exact h2 i k o' (by simpa using e1) (by simpa using e2)
    · rw [h3 k (fun z => hk (List.mem_cons_of_mem _ z))]
      exact List.getElem?_set_ne (fun z => hk (by rw [z]; exact List.mem_cons_self ..))

/-! ### values and objects by another map -/
section
variable {K : Fg} {H : Hp} {B B' : Addr → Prop} {m m' : Mp} {n n' : Nat}
mutual
theorem RD.out (s : ∀ a xs, TupAt K H B a xs → TupAt K H B' a xs) (s2 : ∀ a xs, LstAt K H B a xs → LstAt K H B' a xs) : ∀ {v : V} {d : D}, RD K H B v d → RD K H B' v d
  | _, _, .non => .non
  | _, _, .bl b => .bl b
  | _, _, .int i => .int i
  | _, _, .str x h z => .str x h z
  | _, _, .tup h r => .tup (s _ _ h) (RDs.out s s2 r)
  | _, _, .lst h r => .lst (s2 _ _ h) (RDs.out s s2 r)
theorem RDs.out (s : ∀ a xs, TupAt K H B a xs → TupAt K H B' a xs) (s2 : ∀ a xs, LstAt K H B a xs → LstAt K H B' a xs) : ∀ {vs : List V} {ds : List D}, RDs K H B vs ds → RDs K H B' vs ds
  | _, _, .nil => .nil
  | _, _, .cons h t => .cons (RD.out s s2 h) (RDs.out s s2 t)
end
/-- the places that f tells go over -/
structure Ren (K : Fg) (H : Hp) (m : Mp) (n : Nat) (m' : Mp) (n' : Nat) (f : Nat → Option Nat) : Prop where
  pl : ∀ l l', f l = some l' → l < n → l' < n' ∧ m' l' = m l
  tp : ∀ a xs, TupAt K H (Bof m n) a xs → TupAt K H (Bof m' n') a xs
  ls : ∀ a xs, LstAt K H (Bof m n) a xs → LstAt K H (Bof m' n') a xs
variable {f : Nat → Option Nat}
theorem Ren.rd (R : Ren K H m n m' n' f) {v : V} {d : D} (h : RD K H (Bof m n) v d) : RD K H (Bof m' n') v d := h.out R.tp R.ls
theorem Ren.rds (R : Ren K H m n m' n' f) {v : List V} {d : List D} (h : RDs K H (Bof m n) v d) : RDs K H (Bof m' n') v d := h.out R.tp R.ls
theorem Ren.rv (R : Ren K H m n m' n' f) {v : V} {w w' : Val} (h : RV K H m n v w) (e : renV f w = some w') : RV K H m' n' v w' := by
  cases w with
  | d x => cases e; exact R.rd h
  | loc l =>
    simp only [renV] at e
    cases q : f l with
    | none => rw [q] at e; cases e
    | some l' =>
      rw [q] at e; cases e
      obtain ⟨h1, h2⟩ := R.pl l l' q h.1
      exact ⟨h1, by rw [h2]; exact h.2⟩
theorem Ren.rvs (R : Ren K H m n m' n' f) : ∀ {vs : List V} {ws ws' : List Val}, RVs K H m n vs ws → ws.mapM (renV f) = some ws' → RVs K H m' n' vs ws'
  | _, [], ws', .nil, e => by
    have : ws' = [] := by simpa using e.symm
    subst this; exact .nil
  | _, w :: ws, ws', .cons h t, e => by
    rw [List.mapM_cons] at e
    cases e1 : renV f w with
    | none => rw [e1] at e; cases e
    | some d =>
      cases e2 : ws.mapM (renV f) with
      | none => rw [e1, e2] at e; cases e
      | some r' =>
        rw [e1, e2] at e
        have : ws' = d :: r' := by simpa using e.symm
        subst this
        exact .cons (R.rv h e1) (R.rvs t e2)
theorem Ren.ro (R : Ren K H m n m' n' f) {a : Addr} {o o' : Obj} (h : RO K H m n a o) (e : renO f o = some o') : RO K H m' n' a o' := by
  cases o with
  | lst xs =>
    cases e
    obtain ⟨vs, h1, h2⟩ := h
    exact ⟨vs, h1, R.rds h2⟩
  | lstV ws =>
    obtain ⟨vs, h1, h2⟩ := h
    simp only [renO] at e
    cases e1 : ws.mapM (renV f) with
    | none => rw [e1] at e; cases e
    | some ws' =>
      rw [e1] at e; cases e
      exact ⟨vs, h1, R.rvs h2 e1⟩
  | dct _ => exact h.elim
  | dctV _ => exact h.elim
  | ins _ _ => exact h.elim
  | dead => exact h.elim
end
theorem ro_kind {K : Fg} {H : Hp} {m : Mp} {n : Nat} {a : Addr} {o : Obj} (ro : RO K H m n a o) : (∀ xs, H a ≠ some (.tup xs)) ∧ ∀ ob u, H a ≠ some (.frz ob u) := by
  have key : ∀ {u : HO}, H a = some u → (∀ xs, u ≠ .tup xs) → (∀ ob u', u ≠ .frz ob u') → (∀ xs, H a ≠ some (.tup xs)) ∧ ∀ ob u, H a ≠ some (.frz ob u) := fun {u} h h1 h2 =>
    ⟨fun xs e => h1 xs (Option.some.inj (h.symm.trans e)), fun ob u' e => h2 ob u' (Option.some.inj (h.symm.trans e))⟩
  cases o with
  | lst xs => obtain ⟨vs, h, _⟩ := ro; exact key h (fun _ e => by cases e) (fun _ _ e => by cases e)
  | lstV xs => obtain ⟨vs, h, _⟩ := ro; exact key h (fun _ e => by cases e) (fun _ _ e => by cases e)
  | dct _ => exact ro.elim
  | dctV _ => exact ro.elim
  | ins _ _ => exact ro.elim
  | dead => exact ro.elim

/-! ### into the callee, and back -/
section
variable {K : Fg} {H H2 : Hp} {m m2 : Mp} {st st' st2 : Store} {ord : List Nat}
def mIn (m : Mp) (ord : List Nat) : Mp := fun l => match ord[l]? with
  | some k => m k
  | none => 0
theorem ren_in (hlt : ∀ l ∈ ord, l < st.length) (hl : st'.length = ord.length) : Ren K H m st.length (mIn m ord) st'.length (renN ord) := by
  have sub : ∀ a, Bof (mIn m ord) st'.length a → Bof m st.length a := fun a ⟨l, h1, h2⟩ => by
    have h3 : l < ord.length := by rw [← hl]; exact h1
    refine ⟨ord[l], hlt _ (List.getElem_mem h3), ?_⟩
    rw [← h2]
    simp [mIn, h3]
  refine ⟨fun l l' e h => ?_, fun a xs h => h.imp (fun x => ⟨x.1, fun z => x.2 (sub a z)⟩) id, fun a xs h => h.imp (fun x => ⟨x.1, fun z => x.2 (sub a z)⟩) id⟩
  have e1 := renN_get e
  refine ⟨by rw [hl]; exact (List.getElem?_eq_some_iff.mp e1).1, ?_⟩
  simp [mIn, e1]
theorem rels_in (R : RelS K H m st) (hlt : ∀ l ∈ ord, l < st.length) (hnd : ord.Nodup) (hs : ord.mapM (objAt st (renN ord)) = some st') : RelS K H (mIn m ord) st' := by
  have hl := mapM_len hs
  have RN := ren_in (K := K) (H := H) (m := m) hlt hl
  refine ⟨fun l o e => ?_, fun l l' h1 h2 e => ?_⟩
  · obtain ⟨k, e1, e2⟩ := mapM_at' hs l o e
    unfold objAt at e2
    obtain ⟨o', e3, e4⟩ := Option.bind_eq_some_iff.mp e2
    have : mIn m ord l = m k := by simp [mIn, e1]
    rw [this]
    exact RN.ro (R.obj k o' e3) e4
  · have h1' : l < ord.length := by rw [← hl]; exact h1
    have h2' : l' < ord.length := by rw [← hl]; exact h2
    have e' : m ord[l] = m ord[l'] := by simpa [mIn, h1', h2'] using e
    have := R.inj _ _ (hlt _ (List.getElem_mem h1')) (hlt _ (List.getElem_mem h2')) e'
    exact (List.getElem_inj hnd).mp this
/-- the caller's map behind the call -/
def mOut (m m2 : Mp) (k : Nat) (new : List Nat) : Mp := fun l => if l < k then m l else match new[l - k]? with
  | some j => m2 j
  | none => 0
theorem back_ok {α : Type} {roots : List Nat} {fin : (Nat → Option Nat) → Option α} {v : α} {st3 : Store} (R : RelS K H m st) (hlt : ∀ l ∈ ord, l < st.length) (hnd : ord.Nodup) (hl : st'.length = ord.length)
    (A : Aft (mIn m ord) st'.length H m2 st2.length H2) (R2 : RelS K H2 m2 st2) (h : back ord st st2 roots fin = some (v, st3)) :
    ∃ m3 f, Aft m st.length H m3 st3.length H2 ∧ RelS K H2 m3 st3 ∧ Ren K H2 m2 st2.length m3 st3.length f ∧ fin f = some v := by
  unfold back at h
  simp only at h
  generalize hnew : (reach st2 1000 (List.range ord.length ++ roots) []).filter (fun l => decide (ord.length ≤ l)) = new at h
  generalize hf : (fun l => if l < ord.length then ord[l]? else (renN new l).map (st.length + ·)) = f at h
  have newlt : ∀ l ∈ new, l < st2.length ∧ ord.length ≤ l := fun l hm => by
    rw [← hnew] at hm
    obtain ⟨h1, h2⟩ := List.mem_filter.mp hm
    exact ⟨reach_lt st2 _ _ _ (by simp) l h1, of_decide_eq_true h2⟩
  have newnd : new.Nodup := by
    rw [← hnew]
    exact (reach_nd st2 _ _ _ (by simp)).filter _
  obtain ⟨olds, e1, h⟩ := Option.bind_eq_some_iff.mp h
  obtain ⟨news, e2, h⟩ := Option.bind_eq_some_iff.mp h
  obtain ⟨stp, e3, h⟩ := Option.bind_eq_some_iff.mp h
  obtain ⟨x, e4, h⟩ := Option.map_eq_some_iff.mp h
  obtain ⟨rfl, rfl⟩ := Prod.mk.inj h
  have lo : olds.length = ord.length := by rw [mapM_len e1]; simp
  have ln : news.length = new.length := mapM_len e2
  obtain ⟨p1, p2, p3⟩ := putAll_ok e3 hnd lo hlt
  have l3 : (stp ++ news).length = st.length + new.length := by rw [List.length_append, p1, ln]
  -- the map
  have mlt : ∀ l, l < st.length → mOut m m2 st.length new l = m l := fun l hl => by simp [mOut, hl]
  have mge : ∀ (j k : Nat), new[j]? = some k → mOut m m2 st.length new (st.length + j) = m2 k := fun j k e => by
    unfold mOut
    rw [if_neg (by omega), Nat.add_sub_cancel_left, e]
  have min : ∀ (i k : Nat), ord[i]? = some k → m2 i = m k := fun i k e => by
    have hi : i < st'.length := by rw [hl]; exact (List.getElem?_eq_some_iff.mp e).1
    rw [A.mp i hi]
    simp [mIn, e]
  have fpl : ∀ l l', f l = some l' → l < st2.length → l' < st.length + new.length ∧ mOut m m2 st.length new l' = m2 l := fun l l' e hl2 => by
    rw [← hf] at e
    simp only at e
    by_cases hc : l < ord.length
    · rw [if_pos hc] at e
      have h1 : l' < st.length := hlt _ (List.mem_of_getElem? e)
      exact ⟨by omega, by rw [mlt _ h1, min _ _ e]⟩
    · rw [if_neg hc] at e
      obtain ⟨j, e5, rfl⟩ := Option.map_eq_some_iff.mp e
      have e6 := renN_get e5
      exact ⟨by have := (List.getElem?_eq_some_iff.mp e6).1; omega, mge _ _ e6⟩
  -- what lies outside
  have bout : ∀ a, Bof (mOut m m2 st.length new) (st.length + new.length) a → Bof m2 st2.length a ∨ ∃ l, l < st.length ∧ l ∉ ord ∧ m l = a := fun a ⟨l, h1, h2⟩ => by
    by_cases hc : l < st.length
    · rw [mlt l hc] at h2
      by_cases ho : l ∈ ord
      · obtain ⟨i, hi, e⟩ := List.getElem_of_mem ho
        refine .inl ⟨i, ?_, ?_⟩
        · have := A.len; omega
        · rw [min i l (by rw [List.getElem?_eq_getElem hi, e])]; exact h2
      · exact .inr ⟨l, hc, ho, h2⟩
    · have hj : l - st.length < new.length := by omega
      have e : new[l - st.length]? = some new[l - st.length] := List.getElem?_eq_getElem hj
      have := mge _ _ e
      rw [show st.length + (l - st.length) = l by omega] at this
      rw [this] at h2
      exact .inl ⟨_, (newlt _ (List.getElem_mem hj)).1, h2⟩
  have notIn : ∀ l, l < st.length → l ∉ ord → ∀ k, k < st'.length → mIn m ord k ≠ m l := fun l h1 h2 k hk e => by
    have hk' : k < ord.length := by rw [← hl]; exact hk
    have e' : m ord[k] = m l := by simpa [mIn, hk'] using e
    have := R.inj _ _ (hlt _ (List.getElem_mem hk')) h1 e'
    exact h2 (by rw [← this]; exact List.getElem_mem hk')
  have kindOut : ∀ a, (∃ l, l < st.length ∧ l ∉ ord ∧ m l = a) → (∀ xs, H2 a ≠ some (.tup xs)) ∧ ∀ ob u, H2 a ≠ some (.frz ob u) := fun a ⟨l, h1, h2, h3⟩ => by
    have ro := R.obj l st[l] (List.getElem?_eq_getElem h1)
    obtain ⟨u, hu⟩ := ro_some ro
    obtain ⟨k1, k2⟩ := ro_kind ro
    have := A.fr _ _ hu (notIn l h1 h2)
    rw [h3] at this hu k1 k2
    rw [hu] at k1 k2
    exact ⟨fun xs e => k1 xs (by rw [← this]; exact e), fun ob u' e => k2 ob u' (by rw [← this]; exact e)⟩
  have RN : Ren K H2 m2 st2.length (mOut m m2 st.length new) (st.length + new.length) f := by
    refine ⟨fpl, fun a xs h => h.imp (fun ⟨x, y⟩ => ⟨x, fun z => ?_⟩) id, fun a xs h => h.imp (fun ⟨x, y⟩ => ⟨x, fun z => ?_⟩) id⟩
    · rcases bout a z with z | z
      · exact y z
      · obtain ⟨k1, k2⟩ := kindOut a z
        rcases x with x | ⟨o, x⟩
        · exact k1 _ x
        · exact k2 _ _ x
    · rcases bout a z with z | z
      · exact y z
      · obtain ⟨o, x⟩ := x
        exact (kindOut a z).2 _ _ x
  have AF : Aft m st.length H (mOut m m2 st.length new) (st.length + new.length) H2 := by
    refine ⟨by omega, mlt, fun a o e hn => A.fr a o e fun l hl2 => ?_, fun l h1 h2 => ?_⟩
    · have hl3 : l < ord.length := by rw [← hl]; exact hl2
      have : mIn m ord l = m ord[l] := by simp [mIn, hl3]
      rw [this]
      exact hn _ (hlt _ (List.getElem_mem hl3))
    · have hj : l - st.length < new.length := by omega
      have e : new[l - st.length]? = some new[l - st.length] := List.getElem?_eq_getElem hj
      have := mge _ _ e
      rw [show st.length + (l - st.length) = l by omega] at this
      rw [this]
      obtain ⟨n1, n2⟩ := newlt _ (List.getElem_mem hj)
      exact A.new _ (by rw [hl]; exact n2) n1
  refine ⟨mOut m m2 st.length new, f, by rw [l3]; exact AF, ⟨fun l o e => ?_, fun l l' h1 h2 e => ?_⟩, by rw [l3]; exact RN, e4⟩
  · rw [l3]
    by_cases hc : l < st.length
    · rw [mlt l hc]
      rw [List.getElem?_append_left (by rw [p1]; exact hc)] at e
      by_cases ho : l ∈ ord
      · obtain ⟨i, hi, e5⟩ := List.getElem_of_mem ho
        have e5' : ord[i]? = some l := by rw [List.getElem?_eq_getElem hi, e5]
        have hi2 : i < olds.length := by rw [lo]; exact hi
        have q := p2 i l olds[i] e5' (List.getElem?_eq_getElem hi2)
        rw [q] at e; cases e
        obtain ⟨k, e6, e7⟩ := mapM_at' e1 i _ (List.getElem?_eq_getElem hi2)
        have : k = i := by
          have := (List.getElem?_eq_some_iff.mp e6).2
          simpa using this.symm
        subst this
        unfold objAt at e7
        obtain ⟨o', e8, e9⟩ := Option.bind_eq_some_iff.mp e7
        rw [← min k l e5']
        exact RN.ro (R2.obj k o' e8) e9
      · rw [p3 l ho] at e
        have ro := R.obj l o e
        refine ro_aft AF (fun u hu => ?_) ro
        exact A.fr _ _ hu (notIn l hc ho)
    · rw [List.getElem?_append_right (by rw [p1]; omega), p1] at e
      obtain ⟨k, e6, e7⟩ := mapM_at' e2 _ _ e
      unfold objAt at e7
      obtain ⟨o', e8, e9⟩ := Option.bind_eq_some_iff.mp e7
      have := mge _ _ e6
      rw [show st.length + (l - st.length) = l by omega] at this
      rw [this]
      exact RN.ro (R2.obj k o' e8) e9
  · rw [l3] at h1 h2
    have far : ∀ l l', l < st.length → ¬ l' < st.length → l' < st.length + new.length → mOut m m2 st.length new l ≠ mOut m m2 st.length new l' := fun l l' a b c e => by
      obtain ⟨u, hu⟩ := R.has a
      rw [mlt l a] at e
      have := AF.new l' (by omega) c
      rw [← e, hu] at this
      cases this
    by_cases a : l < st.length
    · by_cases b : l' < st.length
      · rw [mlt l a, mlt l' b] at e
        exact R.inj l l' a b e
      · exact absurd e (far l l' a b h2)
    · by_cases b : l' < st.length
      · exact absurd e.symm (far l' l b a h1)
      · have hj : l - st.length < new.length := by omega
        have hj' : l' - st.length < new.length := by omega
        have q1 := mge _ _ (List.getElem?_eq_getElem hj)
        have q2 := mge _ _ (List.getElem?_eq_getElem hj')
        rw [show st.length + (l - st.length) = l by omega] at q1
        rw [show st.length + (l' - st.length) = l' by omega] at q2
        rw [q1, q2] at e
        have := R2.inj _ _ (newlt _ (List.getElem_mem hj)).1 (newlt _ (List.getElem_mem hj')).1 e
        have := (List.getElem_inj newnd).mp this
        omega
end
end PI
/-! SND13: every def keeps the interpreter's promise. -/
namespace PI
open PySem PySem.Spec PyProof.Rows L2

theorem frame_ok {K : Fg} {ec : EC} {W : XW} {m : Mp} {st : Store} {H : Hp} {vs : List V} {ws : List Val} {Q : V → Hp → Prop} {g : List Val → Store → R Val} (R : RelS K H m st) (rv : RVs K H m st.length vs ws)
    (p : Post K ec W m st.length H (framed g ws st) (RV K) Q) : ∃ m' st' ws', RelS K H m' st' ∧ RVs K H m' st'.length vs ws' ∧ Post K ec W m' st'.length H (g ws' st') (RV K) Q := by
  unfold framed at p
  simp only at p
  generalize hord : reach st 1000 (ws.flatMap Val.locs) [] = ord at p
  have hnd : ord.Nodup := by rw [← hord]; exact reach_nd _ _ _ _ (by simp)
  have hlt : ∀ l ∈ ord, l < st.length := by rw [← hord]; exact reach_lt _ _ _ _ (by simp)
  cases e1 : ws.mapM (renV (renN ord)) with
  | none => rw [e1] at p; exact p.elim
  | some ws' =>
    cases e2 : ord.mapM (objAt st (renN ord)) with
    | none => rw [e1, e2] at p; exact p.elim
    | some st' =>
      rw [e1, e2] at p
      simp only at p
      have hl := mapM_len e2
      have RN := ren_in (K := K) (H := H) (m := m) hlt hl
      have R' := rels_in R hlt hnd e2
      refine ⟨mIn m ord, st', ws', R', RN.rvs rv e1, ?_⟩
      cases e3 : g ws' st' with
      | bad => rw [e3] at p; exact p.elim
      | ok v st2 =>
        rw [e3] at p
        simp only at p
        cases e4 : back ord st st2 v.locs (fun f => renV f v) with
        | none => rw [e4] at p; exact p.elim
        | some q =>
          obtain ⟨v', st3⟩ := q
          rw [e4] at p
          intro m2 H2 x A2 R2 rx
          obtain ⟨m3, f, A3, R3, RN3, e5⟩ := back_ok R hlt hnd hl A2 R2 e4
          exact p m3 H2 x A3 R3 (RN3.rv rx e5)
      | exc x st2 =>
        rw [e3] at p
        simp only at p
        cases e4 : back ord st st2 [] (fun _ => some ()) with
        | none => rw [e4] at p; exact p.elim
        | some q =>
          obtain ⟨v', st3⟩ := q
          rw [e4] at p
          intro m2 H2 cls d A2 R2 rx
          obtain ⟨m3, f, A3, R3, RN3, e5⟩ := back_ok R hlt hnd hl A2 R2 e4
          obtain ⟨x1, x2, dd, fs, x3, x4, x5, x6⟩ := rx
          exact p m3 H2 cls d A3 R3 ⟨x1, x2, dd, fs, x3, x4, x5, RN3.rds x6⟩

/-- a def of the program: its function object, its compiled body -/
structure FunOk (T : Tb) (f : Nat) (F : Fn) : Prop where
  ex : ∃ (x qual : Str) (params : Arguments) (body : List Stmt) (scope : Scope) (N : List Str) (k : Nat), FunD T.K x qual params body scope [] [] (T.fa f) (T.fd f) ∧ FnScope N (T.ps f) scope ∧ N.length = F.ns ∧ (T.ps f).length = F.np ∧
    cSs (cS ⟨N, scope.names, T.G⟩ k) body = some F.body ∧ ∀ x ∈ N, (x == ("__debug__" : Str)) = false ∧ (x == ("__classdict__" : Str)) = false
theorem start_rel {K : Fg} {H : Hp} {m : Mp} {st : Store} {vs : List V} {ws : List Val} {N : List Str} {k : Nat} (R : RelS K H m st) (rv : RVs K H m st.length vs ws) (hk : N.length = ws.length + k) : Rel K m (ws.map some ++ List.replicate k none) st (L2.start N vs) H := by
  have hl := RVs.length rv
  refine ⟨R, fun i w e => ?_, ?_⟩
  · unfold L2.start
    by_cases hi : i < ws.length
    · rw [List.getElem?_append_left (by simpa using hi), List.getElem?_map, List.getElem?_eq_getElem hi] at e
      have e' : ws[i] = w := by simpa using e
      obtain ⟨v, h1, h2⟩ := RVs.get rv (List.getElem?_eq_getElem hi)
      refine ⟨v, ?_, by rw [← e']; exact h2⟩
      rw [List.getElem?_append_left (by simpa [hl] using hi), List.getElem?_map, h1]
      rfl
    · rw [List.getElem?_append_right (by simpa using hi), List.getElem?_replicate] at e
      split at e <;> cases e
  · unfold L2.start
    simp [hl, hk]
theorem fns_ok (T : Tb) (F : Facts T) (D : ∀ f F, T.prog[f]? = some F → FunOk T f F) : ∀ n, FnsOk T n := by
  intro n
  induction n with
  | zero =>
    intro f Fn hf
    obtain ⟨x, qual, params, body, scope, N, k, FD, S, hN, hp, hc, hnm⟩ := (D f Fn hf).ex
    refine (FD.ok (k := 1) S (fun vs H Q E h => h.1) fun cdv A outer s H vs Q E hr h => ?_)
    obtain ⟨_, m, st, ws, _, _, p⟩ := h
    exact p.elim
  | succ n ih =>
    intro f Fn hf
    obtain ⟨x, qual, params, body, scope, N, k, FD, S, hN, hp, hc, hnm⟩ := (D f Fn hf).ex
    refine FD.ok (k := n + 2) S (fun vs H Q E h => h.1) fun cdv A outer s H vs Q E hr h => ?_
    obtain ⟨hlen, m, st, ws, R, rv, p⟩ := h
    have G : Good T n ⟨N, scope.names, T.G⟩ (cxOf (L2.CX T.P T.w) T.P T.w T.K T.mg T.base N qual scope (T.fa f) cdv A outer s H E) (fun c d H => E c d H) := {
      prog := rfl
      w := rfl
      K := rfl
      mg := rfl
      base := rfl
      N := rfl
      sc := rfl
      G := rfl
      hr := hr
      stk := rfl
      frm := rfl
      calm := rfl
      nd := S.nd
      nm := hnm
      fnl := fun _ _ => .inl rfl
      tk := takes_of rfl rfl rfl rfl
      po := passes_of rfl
      F := F
      ok := ih }
    refine ⟨_, stmts_ok (ex1 := ex (callN T.prog n)) _ (stmt_ok k G) body Fn.body hc, ?_⟩
    rw [callN, hf] at p
    simp only at p
    obtain ⟨m', st', ws', R', rv', p'⟩ := frame_ok R rv p
    unfold runF at p'
    have hl' := RVs.length rv'
    by_cases hn : ws'.length = Fn.np
    · rw [if_pos hn] at p'
      have hle : (T.ps f).length ≤ N.length := by
        have := congrArg List.length S.pre
        rw [List.length_take] at this
        omega
      refine ⟨_, st', m', start_rel R' rv' (by rw [hn]; omega : N.length = ws'.length + (Fn.ns - Fn.np)), fl_step p' ?_ ?_ ?_ ?_⟩
      · exact fun m1 st1 H1 σ1 env1 r1 a1 p1 => p1 m1 H1 .non Aft.refl r1.s .non
      · exact fun m1 st1 H1 v w s1 a1 rv1 p1 => p1 m1 H1 v Aft.refl s1 rv1
      · exact fun m1 st1 H1 σ1 env1 r1 a1 p1 => p1.elim
      · exact fun m1 st1 H1 σ1 env1 r1 a1 p1 => p1.elim
    · rw [if_neg hn] at p'
      exact p'.elim
end PI
/-! SND14: what the head must tell, as one Bool of the written part; the law's promise from it. -/
namespace PI
open PySem PySem.Spec PyProof.Rows L2

/-! ### binding of plain parameters -/
theorem zip_lookup : ∀ {ps : List Str} {us : List Value}, us.length = ps.length → ∀ x ∈ ps, ((ps.zip us).lookup x).isSome = true
  | [], _, _, x, h => by cases h
  | p :: ps, [], hl, x, h => by simp at hl
  | p :: ps, u :: us, hl, x, h => by
    rw [List.zip_cons_cons, List.lookup_cons]
    cases e : (x == p) with
    | true => rfl
    | false =>
      rcases List.mem_cons.mp h with h | h
      · rw [h] at e; simp at e
      · exact zip_lookup (by simpa using hl) x h
theorem zip_fm : ∀ {ps : List Str} {us : List Value}, ps.Nodup → us.length = ps.length → ps.filterMap (fun n => ((ps.zip us).lookup n).map fun v => (n, v)) = ps.zip us
  | [], us, _, hl => by cases us <;> rfl
  | p :: ps, [], _, hl => by simp at hl
  | p :: ps, u :: us, nd, hl => by
    obtain ⟨n1, n2⟩ := List.nodup_cons.mp nd
    rw [List.zip_cons_cons, List.filterMap_cons, List.lookup_cons]
    simp only [beq_self_eq_true, Option.map_some]
    congr 1
    have : ∀ n ∈ ps, List.lookup n ((p, u) :: ps.zip us) = List.lookup n (ps.zip us) := fun n hn => by
      rw [List.lookup_cons]
      have : (n == p) = false := by
        rw [beq_eq_false_iff_ne]
        rintro rfl
        exact n1 hn
      rw [this]
    have e : ∀ l : List Str, (∀ n ∈ l, n ∈ ps) → List.filterMap (fun n => Option.map (fun v => (n, v)) (List.lookup n ((p, u) :: ps.zip us))) l = List.filterMap (fun n => Option.map (fun v => (n, v)) (List.lookup n (ps.zip us))) l := by
      intro l
      induction l with
      | nil => intro _; rfl
      | cons a l ih =>
        intro h
        rw [List.filterMap_cons, List.filterMap_cons, this a (h a (List.mem_cons_self ..)), ih fun n hn => h n (List.mem_cons_of_mem _ hn)]
    rw [e ps fun _ h => h]
    exact zip_fm n2 (by simpa using hl)
theorem bind_plain {x qual : Str} {as : List Arg} {body : List Stmt} {scope : Scope} {kV doc pm cdv ct : Value} {an : Option Addr} {us : List Value} (nd : (as.map (·.arg)).Nodup) (hl : us.length = (as.map (·.arg)).length) :
    bindArgs (PySem.W.fnOf x qual ⟨[], as, none, [], [], none, []⟩ body scope .none kV doc pm an cdv ct) ⟨us, []⟩ = pure ((as.map (·.arg)).zip us) := by
  have e2 : ((as.map (·.arg)).filter fun n => (((as.map (·.arg)).zip us).lookup n).isNone) = [] := by
    rw [List.filter_eq_nil_iff]
    intro n hn
    have := zip_lookup hl n hn
    simpa using this
  have e3 := zip_fm nd hl
  have hl' : us.length = as.length := by simpa using hl
  have e4 : seqItems? Value.none = (pure none : Sem (Option (Array Value))) := rfl
  have e5 : ¬ as.length < us.length := by omega
  have e6 : List.take as.length (List.map (fun x => x.arg) as) = List.map (fun x => x.arg) as := by
    rw [List.take_of_length_le]; simp
  unfold bindArgs
  simp only [PySem.W.fnOf, List.map_nil, List.nil_append, List.append_nil, List.forIn_nil, pure_bind, e4, Option.getD_none, List.length_map, gt_iff_lt, e5, decide_false, Bool.false_and, Bool.false_eq_true, if_false, List.length_nil, Nat.zero_sub, List.drop_nil, Nat.sub_zero, e6, e2, List.isEmpty_nil, Bool.not_true, List.zip_nil_right, e3]
/-- plain parameters -/
def plainP (p : Arguments) : Bool := match p with
  | ⟨[], _, none, [], [], none, []⟩ => true
  | _ => false

/-! ### a constant of the top -/
mutual
def rdB (K : Fg) : D → Value → Bool
  | .non, .none => true
  | .bl b, .bool c => b == c
  | .int i, .int j _ => decide (i = j)
  | .str s, .str x _ => decide (x.cps.toList = s) && (PyData.strOk x && decide (x.length ≤ sizeLine))
  | .tup ds, .ref a => match K.lookup a with
    | some ⟨.type c, _, .seq its _, _⟩ => decide (c = "tuple") && (decide (its.size ≤ sizeLine) && rdBs K ds its.toList)
    | _ => false
  | .lst ds, .ref a => match K.lookup a with
    | some ⟨.type c, none, .seq its _, _⟩ => decide (c = "list") && (decide (its.size ≤ sizeLine) && rdBs K ds its.toList)
    | _ => false
  | _, _ => false
def rdBs (K : Fg) : List D → List Value → Bool
  | [], [] => true
  | d :: ds, u :: us => rdB K d u && rdBs K ds us
  | _, _ => false
end
theorem and2 {a b : Bool} (h : (a && b) = true) : a = true ∧ b = true := Bool.and_eq_true_iff.mp h
mutual
theorem rdB_ok {K : Fg} : ∀ {d : D} {u : Value}, rdB K d u = true → ∃ v, RelV v u ∧ ∀ H B, RD K H B v d
  | .non, u, h => by
    cases u with
    | none => exact ⟨.non, rfl, fun _ _ => .non⟩
    | _ => simp [rdB] at h
  | .bl b, u, h => by
    cases u with
    | bool c =>
      have e : b = c := eq_of_beq (by simpa [rdB] using h)
      exact ⟨.bl b, by rw [e]; rfl, fun _ _ => .bl b⟩
    | _ => simp [rdB] at h
  | .int i, u, h => by
    cases u with
    | int j t =>
      have e : i = j := by simpa [rdB] using h
      exact ⟨.int i, ⟨t, by rw [e]⟩, fun _ _ => .int i⟩
    | _ => simp [rdB] at h
  | .str s, u, h => by
    cases u with
    | str x t =>
      rw [rdB] at h
      obtain ⟨h1, h2⟩ := and2 h
      obtain ⟨h2, h3⟩ := and2 h2
      have e := of_decide_eq_true h1
      exact ⟨.str x, ⟨t, rfl⟩, fun _ _ => by rw [← e]; exact .str x h2 (of_decide_eq_true h3)⟩
    | _ => simp [rdB] at h
  | .tup ds, u, h => by
    cases u with
    | ref a =>
      rw [rdB] at h
      split at h
      · rename_i c dd its n sl e
        obtain ⟨h1, h2⟩ := and2 h
        obtain ⟨h2, h3⟩ := and2 h2
        obtain ⟨vs, r1, r2⟩ := rdBs_ok h3
        exact ⟨.ref a, rfl, fun H B => .tup (.inr ⟨_, its, n, e, congrArg Value.type (of_decide_eq_true h1), rfl, of_decide_eq_true h2, r1⟩) (r2 H B)⟩
      · cases h
    | _ => simp [rdB] at h
  | .lst ds, u, h => by
    cases u with
    | ref a =>
      rw [rdB] at h
      split at h
      · rename_i c its n sl e
        obtain ⟨h1, h2⟩ := and2 h
        obtain ⟨h2, h3⟩ := and2 h2
        obtain ⟨vs, r1, r2⟩ := rdBs_ok h3
        exact ⟨.ref a, rfl, fun H B => .lst (.inr ⟨_, its, n, e, congrArg Value.type (of_decide_eq_true h1), rfl, rfl, of_decide_eq_true h2, r1⟩) (r2 H B)⟩
      · cases h
    | _ => simp [rdB] at h
theorem rdBs_ok {K : Fg} : ∀ {ds : List D} {us : List Value}, rdBs K ds us = true → ∃ vs, Vals vs us ∧ ∀ H B, RDs K H B vs ds
  | [], [], _ => ⟨[], .nil, fun _ _ => .nil⟩
  | [], _ :: _, h => by simp [rdBs] at h
  | _ :: _, [], h => by simp [rdBs] at h
  | d :: ds, u :: us, h => by
    rw [rdBs] at h
    obtain ⟨h1, h2⟩ := and2 h
    obtain ⟨v, a1, a2⟩ := rdB_ok h1
    obtain ⟨vs, b1, b2⟩ := rdBs_ok h2
    exact ⟨v :: vs, .cons a1 b1, fun H B => .cons (a2 H B) (b2 H B)⟩
end

/-! ### an own error's class -/
def oexB (K : Fg) (C : Addr) : Bool := match K.lookup C with
  | some ⟨.type t, _, .cls cd, sl⟩ => decide (t = "type") && (match cd.mro, sl.toList with
    | .ref C' :: bm, [_, _, _, _, some (.builtin n), _] => decide (C' = C) && (decide (n = "ValueError.__new__") && (!cd.hasDel && (cd.hasDict && HandSPX.refsVE bm)))
    | _, _ => false)
  | _ => false
theorem oexB_ok {K : Fg} {C : Addr} (h : oexB K C = true) : ∃ nm q N bs bm sn sub ab col dd k0 k1 k2 k3 k5, K.lookup C = some (excClassObj nm q C N bs bm true sn sub ab col dd k0 k1 k2 k3 k5 "ValueError.__new__") ∧ HandSPX.refsVE bm = true := by
  unfold oexB at h
  split at h
  · rename_i t dd cd sl ho
    obtain ⟨ht, h⟩ := and2 h
    split at h
    · rename_i C' bm k0 k1 k2 k3 n k5 hm hs
      obtain ⟨h1, h⟩ := and2 h
      obtain ⟨h2, h⟩ := and2 h
      obtain ⟨h3, h⟩ := and2 h
      obtain ⟨h4, h5⟩ := and2 h
      have e1 := of_decide_eq_true h1
      have e2 := of_decide_eq_true h2
      have e3 := of_decide_eq_true ht
      subst e1 e2 e3
      obtain ⟨nm, bs, mro, ns, qn, hd, sn, sub, ab, col, del⟩ := cd
      dsimp only at hm h3 h4
      subst hm h4
      have h3' : del = false := by simpa using h3
      subst h3'
      have hsl : sl = #[k0, k1, k2, k3, some (.builtin "ValueError.__new__"), k5] := by
        obtain ⟨l⟩ := sl
        simp only at hs
        rw [hs]
      subst hsl
      exact ⟨nm, qn, ns, bs, bm, sn, sub, ab, col, dd, k0, k1, k2, k3, k5, ho, h5⟩
    · cases h
  · cases h
abbrev gaA := He.ga
abbrev maA := He.ma
def eqOO (a b : Option (Option Value)) : Bool := decide (a = b)
/-- an error's class that is raised -/
def xokB (K : Fg) (C : Addr) : Bool :=
  oexB K C && (xfB K C && (eqOO (PySem.W.findIn K (.ref C) "__setattr__") (some (some (.builtin "object.__setattr__"))) && (decide (PySem.W.typeIn K (.ref C) = some (.type "type")) && (PySem.W.keepIn K (.ref C) && ((PySem.W.clsIn K C).isSome &&
  (eqOO (PySem.W.findIn K (.ref C) "__class__") (some (some (.builtin "object.__class__"))) && (eqOO (PySem.W.specialIn K (.builtin "object.__class__") "__get__") (some (some (.builtin "getset_descriptor.__get__"))) &&
  (decide (PySem.W.takesIn K (.builtin "object.__class__") = some true) && (decide (PySem.W.mroIn K C (.type "object") = some true) && (eqOO (PySem.W.findIn K (.ref C) "place") (some none) && (eqOO (PySem.W.findIn K (.ref C) "reason") (some none) &&
  (eqOO (PySem.W.findIn K (.ref C) "__init__") (some (some (.ref (He.ma K C "__init__")))) && decide (PySem.W.typeIn K (.ref (He.ma K C "__init__")) = some (.type "function"))))))))))))))
def baseB (K : Fg) (B : Addr) : Bool := eqOO (PySem.W.specialIn K (.ref B) "__getattribute__") (some (some (.builtin "type.__getattribute__"))) && (decide (PySem.W.typeIn K (.ref B) = some (.type "type")) && (PySem.W.readsIn K B (.type "type") &&
  (match PySem.W.findCls K (.ref B) (.type "type") "__init__" with
    | some (.val (.builtin n)) => decide (n = "ValueError.__init__")
    | _ => false)))
theorem baseB_ok {K : Fg} {B : Addr} (h : baseB K B = true) : BaseI K B := by
  obtain ⟨h1, h⟩ := and2 h
  obtain ⟨h2, h⟩ := and2 h
  obtain ⟨h3, h4⟩ := and2 h
  refine ⟨of_decide_eq_true h1, of_decide_eq_true h2, h3, ?_⟩
  split at h4
  · rename_i n e
    rw [e, of_decide_eq_true h4]
  · cases h4
theorem xokB_ok {P : Program} {w : World} {K : Fg} {mg : Str → Option Value} {base : Heap} {C : Addr} (h : xokB K C = true)
    (hi : ∃ fd, Binds K fd ["self", "place", "reason"] [] ∧ (OexC K C → PySem.W.findIn K (.ref C) "place" = some none → PySem.W.findIn K (.ref C) "reason" = some none → FnOk P w K mg base (L2.CX P w) 1 (He.ma K C "__init__") fd ["self", "place", "reason"] (spI C))) : XOk P w K mg base C := by
  unfold xokB at h
  obtain ⟨h1, h⟩ := and2 h
  obtain ⟨h2, h⟩ := and2 h
  obtain ⟨h3, h⟩ := and2 h
  obtain ⟨h4, h⟩ := and2 h
  obtain ⟨h5, h⟩ := and2 h
  obtain ⟨h6, h⟩ := and2 h
  obtain ⟨h7, h⟩ := and2 h
  obtain ⟨h8, h⟩ := and2 h
  obtain ⟨h9, h⟩ := and2 h
  obtain ⟨h10, h⟩ := and2 h
  obtain ⟨h11, h⟩ := and2 h
  obtain ⟨h12, h⟩ := and2 h
  obtain ⟨h13, h14⟩ := and2 h
  have xf := xfB_ok h2
  have O : OexC K C := ⟨oexB_ok h1, of_decide_eq_true h3, xf.exC, of_decide_eq_true h4, h5⟩
  obtain ⟨fd, hb, hF⟩ := hi
  exact ⟨O, xf, h6, of_decide_eq_true h7, of_decide_eq_true h8, of_decide_eq_true h9, of_decide_eq_true h10, of_decide_eq_true h11, of_decide_eq_true h12, _, fd, of_decide_eq_true h13, of_decide_eq_true h14, hb, hF O (of_decide_eq_true h11) (of_decide_eq_true h12)⟩
end PI
/-! SND15: a law as a table; its def's promise. -/
namespace PI
open PySem PySem.Spec PyProof.Rows L2

structure PD where
  d : He.DefD
  N : List Str
  ps : List Str
/-- G: the top's names; defs: the functions; cn: the errors' classes (name, raised); inits: their __init__s (class, the base's name) -/
structure PLaw where
  G : List (Str × GRef)
  defs : List PD
  cn : List (Nat × Str × Bool)
  inits : List (Nat × Str × He.DefD)
def PLaw.cc (L : PLaw) (p : PD) : CC := ⟨p.N, p.d.scope.names, L.G⟩
def PLaw.body (L : PLaw) (p : PD) : Option (List S) := cSs (cS (L.cc p) 1000) p.d.body
def PLaw.prog (L : PLaw) : List Fn := L.defs.map fun p => ⟨p.ps.length, p.N.length, (L.body p).getD []⟩
def PLaw.fns (L : PLaw) : List He.DefD := L.defs.map (·.d) ++ L.inits.map (·.2.2)

/-! ### what can be told of the text alone -/
def kindF : ScopeKind → Bool
  | .function => true
  | _ => false
def kindL : Option NameKind → Bool
  | some .local => true
  | some .cell => true
  | _ => false
def notFree : NameKind → Bool
  | .free => false
  | _ => true
def scopeB (N ps : List Str) (sc : Scope) : Bool := kindF sc.kind && (!sc.isCoroutine && (!sc.isGenerator && (decide N.Nodup && (decide (N.take ps.length = ps) && (ps.all (fun x => kindL (sc.names.lookup x)) && sc.names.all fun y => notFree y.2)))))
theorem scopeB_ok {N ps : List Str} {sc : Scope} (h : scopeB N ps sc = true) : FnScope N ps sc := by
  obtain ⟨h1, h⟩ := and2 h
  obtain ⟨h2, h⟩ := and2 h
  obtain ⟨h3, h⟩ := and2 h
  obtain ⟨h4, h⟩ := and2 h
  obtain ⟨h5, h⟩ := and2 h
  obtain ⟨h6, h7⟩ := and2 h
  refine ⟨?_, by simpa using h2, by simpa using h3, of_decide_eq_true h4, of_decide_eq_true h5, fun x hx => ?_, fun y hy e => ?_⟩
  · cases e : sc.kind <;> rw [e] at h1 <;> first | rfl | cases h1
  · have := List.all_eq_true.mp h6 x hx
    cases e : sc.names.lookup x with
    | none => rw [e] at this; cases this
    | some k =>
      rw [e] at this
      cases k with
      | «local» => exact .inl rfl
      | cell => exact .inr rfl
      | _ => cases this
  · have := List.all_eq_true.mp h7 y hy
    rw [e] at this
    cases this
def nameB (x : Str) : Bool := !(x == ("__debug__" : Str)) && !(x == ("__classdict__" : Str))
def PD.okB (L : PLaw) (p : PD) : Bool := plainP p.d.params && (decide (p.d.params.args.map (·.arg) = p.ps) && (p.d.dfl.isEmpty && (p.d.kwd.isEmpty && (scopeB p.N p.ps p.d.scope && (p.N.all nameB && (L.body p).isSome)))))
/-- an __init__'s body -/
def initB (xb : Str) : List Stmt → Bool
  | [.Expr (.Call (.Attribute (.Name b _) i p2) [.Name s1 _, .Name r1 _] [] p5) _, .Assign [.Attribute (.Name s2 _) f1 _] (.Name v1 _) _, .Assign [.Attribute (.Name s3 _) f2 _] (.Name v2 _) _] =>
    decide (b = xb) && (decide (i = "__init__") && (decide (s1 = "self") && (decide (r1 = "reason") && (decide (s2 = "self") && (decide (f1 = "place") && (decide (v1 = "place") && (decide (s3 = "self") && (decide (f2 = "reason") && (decide (v2 = "reason") && (p2.endLine == p5.line))))))))))
  | _ => false
def isGl : Option NameKind → Bool
  | some .globalImplicit => true
  | _ => false
def isLo : Option NameKind → Bool
  | some .local => true
  | _ => false
theorem isGl_ok {o : Option NameKind} (h : isGl o = true) : o = some .globalImplicit := by
  cases o with
  | none => cases h
  | some k => cases k <;> first | rfl | cases h
theorem isLo_ok {o : Option NameKind} (h : isLo o = true) : o = some .local := by
  cases o with
  | none => cases h
  | some k => cases k <;> first | rfl | cases h
abbrev psI : List Str := ["self", "place", "reason"]
def initOkB (q : Nat × Str × He.DefD) : Bool := plainP q.2.2.params && (decide (q.2.2.params.args.map (·.arg) = psI) && (q.2.2.dfl.isEmpty && (q.2.2.kwd.isEmpty && (scopeB psI psI q.2.2.scope && (initB q.2.1 q.2.2.body && (isGl (q.2.2.scope.names.lookup q.2.1) &&
  (isLo (q.2.2.scope.names.lookup ("self" : Str)) && (isLo (q.2.2.scope.names.lookup ("place" : Str)) && (isLo (q.2.2.scope.names.lookup ("reason" : Str)) && !(q.2.1 == ("__debug__" : Str)))))))))))
def PLaw.okB (L : PLaw) : Bool := L.defs.all (PD.okB L) && L.inits.all initOkB

/-! ### what the head tells -/
def gB (L : PLaw) (K : Fg) (q : Str × GRef) : Bool := !(q.1 == ("__debug__" : Str)) && match q.2 with
  | .fn f => (He.Fa.glo q.1).ok K && (match L.defs[f]? with
    | some p => decide (p.d.at_ = (q.1, none))
    | none => false)
  | .con d => match PySem.W.nsIn K mainGlobals q.1 with
    | some (some u) => rdB K d u
    | _ => false
  | .cls c => (He.Fa.glo q.1).ok K && (match L.cn.lookup c with
    | some (x, b) => decide (x = q.1) && (b || decide (c = 0))
    | none => false)
def cB (L : PLaw) (K : Fg) (q : Nat × Str × Bool) : Bool := !q.2.2 || (xokB K (He.ga K q.2.1) && (L.inits.any (fun i => decide (i.1 = q.1) && (decide (i.2.2.at_ = (q.2.1, some ("__init__" : Str))) && (baseB K (He.ga K i.2.1) && (He.Fa.glo i.2.1).ok K))) &&
  L.G.all fun g => match g.2 with
    | .cls d => (match L.cn.lookup d with
      | some (x, _) => decide (PySem.W.exmOne K (.ref (He.ga K q.2.1)) (.ref (He.ga K x)) = some (subCls q.1 d)) && decide (PySem.W.kitOne K (.ref (He.ga K q.2.1)) (.ref (He.ga K x)) = some (subCls q.1 d))
      | none => false)
    | _ => true))
def exB (L : PLaw) (K : Fg) : Bool := L.G.all (gB L K) && (bltNames.all (fun x => (He.Fa.free x).ok K) && L.cn.all (cB L K))

/-! ### the table's facts -/
noncomputable def fdOf (L : PLaw) (K : Fg) (d0 : FuncData) (f : Nat) : FuncData := by
  classical
  exact match L.defs[f]? with
  | some p => if h : ∃ fd, FunD K p.d.name p.d.qual p.d.params p.d.body p.d.scope (p.d.dvs K) (p.d.kws K) (He.fAd K p.d.at_) fd then h.choose else d0
  | none => d0
noncomputable def PLaw.tb (L : PLaw) (P : Program) (w : World) (K : Fg) (mg : Str → Option Value) (base : Heap) (d0 : FuncData) : Tb where
  P := P
  w := w
  K := K
  mg := mg
  base := base
  G := L.G
  prog := L.prog
  ec := fun c => match L.cn.lookup c with
    | some (x, b) => (He.ga K x, [("reason" : Str), ("place" : Str)], b)
    | none => (0, [], false)
  fa := fun f => match L.defs[f]? with
    | some p => He.fAd K p.d.at_
    | none => 0
  fd := fdOf L K d0
  ps := fun f => match L.defs[f]? with
    | some p => p.ps
    | none => []
theorem lookup_mem {α β : Type} [BEq α] [LawfulBEq α] {x : α} {y : β} : ∀ {l : List (α × β)}, l.lookup x = some y → (x, y) ∈ l
  | [], h => by cases h
  | (a, b) :: l, h => by
    rw [List.lookup_cons] at h
    cases e : (x == a) with
    | true =>
      rw [e] at h
      have e' : x = a := eq_of_beq e
      have : b = y := Option.some.inj h
      rw [e', this]
      exact List.mem_cons_self ..
    | false =>
      rw [e] at h
      exact List.mem_cons_of_mem _ (lookup_mem h)
section
variable {L : PLaw} {P : Program} {w : World} {K : Fg} {mg : Str → Option Value} {base h : Heap} {d0 : FuncData} {fa : List He.Fa}
theorem def_at (c : He.SaysD fa L.fns K) {f : Nat} {p : PD} (hp : L.defs[f]? = some p) : FunD K p.d.name p.d.qual p.d.params p.d.body p.d.scope (p.d.dvs K) (p.d.kws K) (He.fAd K p.d.at_) (fdOf L K d0 f) := by
  have hm : p.d ∈ L.fns := List.mem_append_left _ (List.mem_map.mpr ⟨p, List.mem_of_getElem? hp, rfl⟩)
  have hx := c.defs hm
  unfold fdOf
  simp only [hp]
  rw [dif_pos hx]
  exact hx.choose_spec
theorem dfl_nil {p : He.DefD} (h : p.dfl.isEmpty = true) : p.dvs K = [] := by
  unfold He.DefD.dvs
  rw [List.isEmpty_iff.mp h]; rfl
theorem kwd_nil {p : He.DefD} (h : p.kwd.isEmpty = true) : p.kws K = [] := by
  unfold He.DefD.kws
  rw [List.isEmpty_iff.mp h]; rfl
theorem plain_binds {x qual : Str} {params : Arguments} {body : List Stmt} {scope : Scope} {f : Addr} {fd : FuncData} {ps : List Str} (F : FunD K x qual params body scope [] [] f fd) (h1 : plainP params = true) (h2 : params.args.map (·.arg) = ps) (nd : ps.Nodup) :
    Binds K fd ps [] ∧ ∀ (s : Shared) (us : List Value), us.length = ps.length → BindsTo s fd ⟨us, []⟩ (ps.zip us) := by
  unfold plainP at h1
  split at h1
  · rename_i as
    subst h2
    exact ⟨F.bindsN fun kV doc pm an cdv ct us hl => bind_plain nd hl, fun s us hl => F.bindsA (fun kV doc pm an cdv ct us hl => bind_plain nd hl) s us hl⟩
  · cases h1
theorem fun_at (hst : L.okB = true) (c : He.SaysD fa L.fns K) {f : Nat} {F : Fn} (hf : L.prog[f]? = some F) : FunOk (L.tb P w K mg base d0) f F ∧ Binds K (fdOf L K d0 f) ((L.tb P w K mg base d0).ps f) [] ∧ ((L.tb P w K mg base d0).ps f).length = F.np ∧
    ∀ (s : Shared) (us : List Value), us.length = ((L.tb P w K mg base d0).ps f).length → BindsTo s (fdOf L K d0 f) ⟨us, []⟩ (((L.tb P w K mg base d0).ps f).zip us) := by
  unfold PLaw.prog at hf
  rw [List.getElem?_map] at hf
  cases hp : L.defs[f]? with
  | none => rw [hp] at hf; cases hf
  | some p =>
    rw [hp] at hf
    have hF := Option.some.inj hf
    have F0 := def_at (d0 := d0) c hp
    obtain ⟨k1, k⟩ := and2 (List.all_eq_true.mp (and2 hst).1 p (List.mem_of_getElem? hp))
    obtain ⟨k2, k⟩ := and2 k
    obtain ⟨k3, k⟩ := and2 k
    obtain ⟨k4, k⟩ := and2 k
    obtain ⟨k5, k⟩ := and2 k
    obtain ⟨k6, k7⟩ := and2 k
    rw [dfl_nil k3, kwd_nil k4] at F0
    have S := scopeB_ok k5
    have eps : (L.tb P w K mg base d0).ps f = p.ps := by
      show (match L.defs[f]? with | some p => p.ps | none => []) = _
      rw [hp]
    have efa : (L.tb P w K mg base d0).fa f = He.fAd K p.d.at_ := by
      show (match L.defs[f]? with | some p => He.fAd K p.d.at_ | none => 0) = _
      rw [hp]
    have nd : p.ps.Nodup := by
      have := S.nd
      rw [← S.pre]
      exact this.sublist (List.take_sublist _ _)
    obtain ⟨b1, b2⟩ := plain_binds F0 k1 (of_decide_eq_true k2) nd
    obtain ⟨bd, hb⟩ := Option.isSome_iff_exists.mp k7
    rw [eps]
    refine ⟨⟨p.d.name, p.d.qual, p.d.params, p.d.body, p.d.scope, p.N, 1000, ?_, ?_, ?_, ?_, ?_, fun x hx => ?_⟩, b1, ?_, b2⟩
    · rw [efa]; exact F0
    · rw [eps]; exact S
    · rw [← hF]
    · rw [eps, ← hF]
    · rw [← hF]
      show cSs (cS (L.cc p) 1000) p.d.body = some ((L.body p).getD [])
      rw [hb]
      exact hb
    · have := List.all_eq_true.mp k6 x hx
      obtain ⟨n1, n2⟩ := and2 this
      exact ⟨by simpa using n1, by simpa using n2⟩
    · rw [← hF]

/-! ### all facts -/
theorem initB_ok {xb : Str} {body : List Stmt} (h : initB xb body = true) : ∃ p1 p2 p3 p4 p5 p6 p7 p8 p9 p10 p11 p12 p13 p14, (p2.endLine == p5.line) = true ∧ body = [.Expr (.Call (.Attribute (.Name xb p1) "__init__" p2) [.Name "self" p3, .Name "reason" p4] [] p5) p6,
      .Assign [.Attribute (.Name "self" p7) "place" p8] (.Name "place" p9) p10, .Assign [.Attribute (.Name "self" p11) "reason" p12] (.Name "reason" p13) p14] := by
  unfold initB at h
  split at h
  · obtain ⟨h1, h⟩ := and2 h
    obtain ⟨h2, h⟩ := and2 h
    obtain ⟨h3, h⟩ := and2 h
    obtain ⟨h4, h⟩ := and2 h
    obtain ⟨h5, h⟩ := and2 h
    obtain ⟨h6, h⟩ := and2 h
    obtain ⟨h7, h⟩ := and2 h
    obtain ⟨h8, h⟩ := and2 h
    obtain ⟨h9, h⟩ := and2 h
    obtain ⟨h10, h11⟩ := and2 h
    rw [of_decide_eq_true h1, of_decide_eq_true h2, of_decide_eq_true h3, of_decide_eq_true h4, of_decide_eq_true h5, of_decide_eq_true h6, of_decide_eq_true h7, of_decide_eq_true h8, of_decide_eq_true h9, of_decide_eq_true h10]
    exact ⟨_, _, _, _, _, _, _, _, _, _, _, _, _, _, h11, rfl⟩
  · cases h
theorem xok_at (hst : L.okB = true) (c : He.SaysD fa L.fns K) (X : K.In h) (G : h.Ns mainGlobals mg) (he : exB L K = true) {n : Nat} {x : Str} (hl : L.cn.lookup n = some (x, true)) : XOk P w K mg base (He.ga K x) ∧
    ∀ y d x' b', (y, GRef.cls d) ∈ L.G → L.cn.lookup d = some (x', b') → PySem.W.exmOne K (.ref (He.ga K x)) (.ref (He.ga K x')) = some (subCls n d) ∧ PySem.W.kitOne K (.ref (He.ga K x)) (.ref (He.ga K x')) = some (subCls n d) := by
  obtain ⟨he1, he2⟩ := and2 he
  obtain ⟨he2, he3⟩ := and2 he2
  have hc := List.all_eq_true.mp he3 _ (lookup_mem hl)
  unfold cB at hc
  simp only [Bool.not_true, Bool.false_or] at hc
  obtain ⟨c1, hc⟩ := and2 hc
  obtain ⟨c2, c3⟩ := and2 hc
  refine ⟨?_, fun y d x' b' hm hl' => ?_⟩
  · obtain ⟨i, hi, ci⟩ := List.any_eq_true.mp c2
    obtain ⟨i1, ci⟩ := and2 ci
    obtain ⟨i2, ci⟩ := and2 ci
    obtain ⟨i3, i4⟩ := and2 ci
    have hd : i.2.2 ∈ L.fns := List.mem_append_right _ (List.mem_map.mpr ⟨i, hi, rfl⟩)
    obtain ⟨fd, F⟩ := c.defs hd
    obtain ⟨k1, k⟩ := and2 (List.all_eq_true.mp (and2 hst).2 i hi)
    obtain ⟨k2, k⟩ := and2 k
    obtain ⟨k3, k⟩ := and2 k
    obtain ⟨k4, k⟩ := and2 k
    obtain ⟨k5, k⟩ := and2 k
    obtain ⟨k6, k⟩ := and2 k
    obtain ⟨k7, k⟩ := and2 k
    obtain ⟨k8, k⟩ := and2 k
    obtain ⟨k9, k⟩ := and2 k
    obtain ⟨k10, k11⟩ := and2 k
    rw [dfl_nil k3, kwd_nil k4] at F
    have ea : He.fAd K i.2.2.at_ = He.ma K (He.ga K x) "__init__" := by
      rw [of_decide_eq_true i2]; rfl
    rw [ea] at F
    have S := scopeB_ok k5
    refine xokB_ok c1 ⟨fd, (plain_binds F k1 (of_decide_eq_true k2) (by decide)).1, fun O f1 f2 => ?_⟩
    obtain ⟨p1, p2, p3, p4, p5, p6, p7, p8, p9, p10, p11, p12, p13, p14, hline, hb⟩ := initB_ok k6
    rw [hb] at F
    exact init_ok (pm := baseB_ok i3) (He.glo_ok X G i4) O f1 f2 (by simpa using k11) S (isGl_ok k7) (isLo_ok k8) (isLo_ok k9) (isLo_ok k10) hline F
  · have := List.all_eq_true.mp c3 _ hm
    simp only [hl'] at this
    obtain ⟨e1, e2⟩ := and2 this
    exact ⟨of_decide_eq_true e1, of_decide_eq_true e2⟩
theorem facts_ok (hst : L.okB = true) (c : He.SaysD fa L.fns K) (X : K.In h) (G : h.Ns mainGlobals mg) (he : exB L K = true) : Facts (L.tb P w K mg base d0) := by
  obtain ⟨he1, he2⟩ := and2 he
  obtain ⟨he2, he3⟩ := and2 he2
  have hg : ∀ {x : Str} {r : GRef}, L.G.lookup x = some r → gB L K (x, r) = true := fun hl => List.all_eq_true.mp he1 _ (lookup_mem hl)
  have ecOf : ∀ n x b, L.cn.lookup n = some (x, b) → (L.tb P w K mg base d0).ec n = (He.ga K x, [("reason" : Str), ("place" : Str)], b) := fun n x b hl => by
    show (match L.cn.lookup n with | some (x, b) => (He.ga K x, [("reason" : Str), ("place" : Str)], b) | none => (0, [], false)) = _
    rw [hl]
  have ecR : ∀ n, ((L.tb P w K mg base d0).ec n).2.2 = true → ∃ x, L.cn.lookup n = some (x, true) := fun n hn => by
    cases hl : L.cn.lookup n with
    | none =>
      have : (L.tb P w K mg base d0).ec n = (0, [], false) := by
        show (match L.cn.lookup n with | some (x, b) => (He.ga K x, [("reason" : Str), ("place" : Str)], b) | none => (0, [], false)) = _
        rw [hl]
      rw [this] at hn; cases hn
    | some q =>
      obtain ⟨x, b⟩ := q
      rw [ecOf n x b hl] at hn
      have : b = true := hn
      subst this
      exact ⟨x, rfl⟩
  refine ⟨fun x d hl => ?_, fun x f hl => ?_, fun x hx => ?_, fun x r hl => ?_, fun f F hf => ?_, fun x n hl => ?_, fun n hn => ?_, fun n x d hn hl => ?_⟩
  · obtain ⟨g1, g2⟩ := and2 (hg hl)
    simp only at g2
    cases e : PySem.W.nsIn K mainGlobals x with
    | none => rw [e] at g2; cases g2
    | some o =>
      cases o with
      | none => rw [e] at g2; cases g2
      | some u =>
        rw [e] at g2
        obtain ⟨v, r1, r2⟩ := rdB_ok g2
        exact ⟨v, u, PySem.W.mg_of X G e, r1, r2⟩
  · obtain ⟨g1, g2⟩ := and2 (hg hl)
    simp only at g2
    obtain ⟨g2, g3⟩ := and2 g2
    cases hp : L.defs[f]? with
    | none => rw [hp] at g3; cases g3
    | some p =>
      rw [hp] at g3
      have ea : He.fAd K p.d.at_ = He.ga K x := by rw [of_decide_eq_true g3]; rfl
      have hf : L.prog[f]? = some ⟨p.ps.length, p.N.length, (L.body p).getD []⟩ := by
        unfold PLaw.prog
        rw [List.getElem?_map, hp]; rfl
      obtain ⟨_, b1, _, _⟩ := fun_at (P := P) (w := w) (mg := mg) (base := base) (d0 := d0) hst c hf
      have efa : (L.tb P w K mg base d0).fa f = He.ga K x := by
        show (match L.defs[f]? with | some p => He.fAd K p.d.at_ | none => 0) = _
        rw [hp]; exact ea
      have F0 := def_at (d0 := d0) c hp
      refine ⟨by rw [efa]; exact He.glo_ok X G g2, by rw [efa, ← ea]; exact F0.kp, b1, _, hf⟩
  · exact He.free_ok X G (List.all_eq_true.mp he2 x hx)
  · obtain ⟨g1, g2⟩ := and2 (hg hl)
    simpa using g1
  · exact (fun_at (P := P) (w := w) (mg := mg) (base := base) (d0 := d0) hst c hf).2.2.1
  · obtain ⟨g1, g2⟩ := and2 (hg hl)
    simp only at g2
    obtain ⟨g2, g3⟩ := and2 g2
    cases hc : L.cn.lookup n with
    | none => rw [hc] at g3; cases g3
    | some q =>
      obtain ⟨x', b⟩ := q
      rw [hc] at g3
      simp only at g3
      obtain ⟨g4, g5⟩ := and2 g3
      have e : x' = x := of_decide_eq_true g4
      subst e
      rw [ecOf n x' b hc]
      refine ⟨He.glo_ok X G g2, fun hn => ?_⟩
      rcases Bool.or_eq_true_iff.mp g5 with z | z
      · exact z
      · exact absurd (of_decide_eq_true z) hn
  · obtain ⟨x, hl⟩ := ecR n hn
    rw [ecOf n x true hl]
    exact ⟨(xok_at hst c X G he hl).1, rfl⟩
  · obtain ⟨x0, hl0⟩ := ecR n hn
    obtain ⟨g1, g2⟩ := and2 (hg hl)
    simp only at g2
    obtain ⟨g2, g3⟩ := and2 g2
    cases hc : L.cn.lookup d with
    | none => rw [hc] at g3; cases g3
    | some q =>
      obtain ⟨x', b'⟩ := q
      rw [ecOf n x0 true hl0, ecOf d x' b' hc]
      exact (xok_at (P := P) (w := w) (base := base) hst c X G he hl0).2 x d x' b' (lookup_mem hl) hc
/-- a def's promise, at depth n -/
theorem def_ok (hst : L.okB = true) (c : He.SaysD fa L.fns K) (X : K.In h) (G : h.Ns mainGlobals mg) (he : exB L K = true) (n : Nat) {f : Nat} {F : Fn} (hf : L.prog[f]? = some F) :
    FnOk P w K mg base (L2.CX P w) (n + 2) ((L.tb P w K mg base d0).fa f) (fdOf L K d0 f) ((L.tb P w K mg base d0).ps f) (spF (L.tb P w K mg base d0) n f) :=
  fns_ok (L.tb P w K mg base d0) (facts_ok hst c X G he) (fun f F hf => (fun_at hst c hf).1) n f F hf
end
/-- the law's reading at its script -/
theorem law_sp {T : Tb} {n f : Nat} {H : Hp} {a : Addr} {ns : List Int} (hps : (T.ps f).length = 1) (hO : Only H) (hS : SqL T.K H a (ns.map V.int)) (hm : ∃ st, callN T.prog n f [.d (.lst (ns.map .int))] [] = .ok (.d (.bl true)) st) :
    spF T n f [.ref a] H (fun v _ => v = .bl true) fun _ _ _ => False := by
  obtain ⟨st, hm⟩ := hm
  refine ⟨by rw [hps]; rfl, fun _ => 0, [], [.d (.lst (ns.map .int))], ⟨fun l o e => by simp at e, fun l l' h => by simp at h⟩, ?_, ?_⟩
  · refine .cons ?_ .nil
    have rs : ∀ ns : List Int, RDs T.K H (Bof (fun _ => 0) ([] : Store).length) (ns.map V.int) (ns.map .int) := by
      intro ns
      induction ns with
      | nil => exact .nil
      | cons i ns ih => exact .cons (.int i) ih
    refine RD.lst ?_ (rs ns)
    rcases hS with h | h
    · refine .inl ⟨?_, fun ⟨l, hl, _⟩ => by simp at hl⟩
      rcases h with h | h
      · rcases hO a with z | ⟨o, xs, z⟩
        · rw [z] at h; cases h
        · rw [z] at h; cases h
      · exact h
    · exact .inr h
  · rw [hm]
    exact fun m' H' x _ _ rx => rd_bl rx
end PI
/-! SND16: the hook that reads the head (with one boot object more), the end of a law. -/
namespace PI
open PySem PySem.Spec PyProof.Rows L2

def asP (g : Addr → Option PySem.Obj) (n : Nat) : List Addr := cStatics :: He.asD g n
def obsP (n : Nat) (fa : List He.Fa) (fn : List He.DefD) (tf : List He.Defn) (ex : Fg → Bool) (g : Addr → Option PySem.Obj) : He.AlX := (He.obsT fa fn [] (He.frT g (asP g n)), ex (He.frT g (asP g n)) && He.tabsB g tf (He.frT g (asP g n)))
theorem saysP_of {n : Nat} {fa : List He.Fa} {fn : List He.DefD} {tf : List He.Defn} {ex : Fg → Bool} {w : World} {h : Heap} (e : obsP n fa fn tf ex h.get? = He.valX fn [] w) : He.SaysX fa fn [] tf ex w h (He.frT h.get? (asP h.get? n)) := by
  have e1 : He.obsT fa fn [] (He.frT h.get? (asP h.get? n)) = He.valT fn [] w := congrArg (fun z : He.AlX => z.1) e
  have e2 : (ex (He.frT h.get? (asP h.get? n)) && He.tabsB h.get? tf (He.frT h.get? (asP h.get? n))) = true := congrArg (fun z : He.AlX => z.2) e
  obtain ⟨h1, h2⟩ := and2 e2
  have key : ∀ p ∈ tf, PySem.W.codeHdIn (He.frT h.get? (asP h.get? n)) (He.cT (He.frT h.get? (asP h.get? n)) p).1 (He.cT (He.frT h.get? (asP h.get? n)) p).2 = true ∧ ∃ o, h.get? (He.cT (He.frT h.get? (asP h.get? n)) p).2 = some o ∧ He.emptyTab o = true := fun p hp => by
    obtain ⟨h3, h4⟩ := and2 (List.all_eq_true.mp h2 p hp)
    refine ⟨h3, ?_⟩
    cases q : h.get? (He.cT (He.frT h.get? (asP h.get? n)) p).2 with
    | none =>
      rw [q] at h4
      cases h4
    | some o =>
      rw [q] at h4
      exact ⟨o, rfl, h4⟩
  exact ⟨e1, h1, fun p hp => (key p hp).1, fun p hp => by
    obtain ⟨_, o, q, z⟩ := key p hp
    exact He.frT_none q z, fun p hp => by
    obtain ⟨_, o, q, z⟩ := key p hp
    rw [q, He.emptyTab_eq z]⟩
def hookP (n : Nat) (fa : List He.Fa) (fn : List He.DefD) (tf : List He.Defn) (ex : Fg → Bool) : PySem.W.Hook where
  α := He.AlX
  obs := fun s => obsP n fa fn tf ex s.heap.get?
  val := fun w => He.valX fn [] w
  says := fun w h => ∃ K : PySem.W.Frag, K.In h ∧ He.SaysX fa fn [] tf ex w h K
  of := fun _ _ e => ⟨_, He.frT_in, saysP_of e⟩
  keeps := fun _ _ _ ⟨K, hK, c⟩ k => ⟨K, PySem.W.Frag.In.keeps hK k, ⟨c.t, c.more, c.hd, c.out, fun p hp => k _ _ (c.empty p hp)⟩⟩
theorem obsP_eq {n : Nat} {fa : List He.Fa} {fn : List He.DefD} {tf : List He.Defn} {ex : Fg → Bool} {g : Addr → Option PySem.Obj} {s : Shared} (h : ∀ a, g a = s.heap.get? a) : obsP n fa fn tf ex g = (hookP n fa fn tf ex).obs s := by
  have e : g = s.heap.get? := funext h
  rw [e] <;> rfl

/-- the end: the law's def at its script -/
theorem walkP {l : PySem.W.OpenLaw} {L : PLaw} {m n i : Nat} {q : Program} {loose : List Str} {XP : (Str → Option Value) → Heap → Prop} {d : DefRec} {F : Fn} {p : PD}
    (hn : l.most = some m) (hn2 : m ≤ sizeLine) (hdf : d.params.defaults = []) (hr : Room (n + 2) callerA) (hst : L.okB = true) (hi : L.prog[i]? = some F) (hp : L.defs[i]? = some p) {x : Str} (hx : d.name = x) (hat : p.d.at_ = (x, none)) (hps : p.ps = [("script" : Str)])
    (hm : ∀ ns : List Int, ns.length ≤ m → ∃ st, callN L.prog n i [.d (.lst (ns.map .int))] [] = .ok (.d (.bl true)) st) :
    PySem.W.WalkO q loose XP (hookP 6 [.glo x] L.fns [] (exB L)).says l.row.toRowW d [] (fun f vs => PySem.call f vs) := by
  subst hx
  refine Att.attach_call hn hdf fun w s₀ s₁ mg mb fa o pm cd doc a vs ns G Y ho hd hcd hmg hobj hints hlen hg => ?_
  obtain ⟨K, KX, c⟩ := Y
  have c1 := He.SaysT.d c.t
  have hga : He.ga K d.name = fa := by
    have e := hmg.symm.trans (He.glo_ok KX G.T.g (c1.fact 0 (f := .glo d.name) rfl))
    cases e; rfl
  obtain ⟨_, b1, b2, b3⟩ := fun_at (P := l.prog) (w := w) (mg := mg) (base := s₁.heap) (d0 := default) hst c1 hi
  have eps : ∀ base, (L.tb l.prog w K mg base default).ps i = [("script" : Str)] := fun base => by
    show (match L.defs[i]? with | some p => p.ps | none => []) = _
    rw [hp]; exact hps
  have efa : ∀ base, (L.tb l.prog w K mg base default).fa i = fa := fun base => by
    show (match L.defs[i]? with | some p => He.fAd K p.d.at_ | none => 0) = _
    rw [hp, ← hga]
    show He.fAd K p.d.at_ = _
    rw [hat]; rfl
  have b3' : ∀ (s : Shared) (u : Value), BindsTo s (fdOf L K default i) ⟨[u], []⟩ [("script", u)] := fun s u => by
    have := b3 s [u] (by rw [eps]; rfl)
    rw [eps] at this
    exact this
  refine law_call (CX := L2.CX l.prog w) (k := n + 2) (sp := spF (L.tb l.prog w K mg s₁.heap default) n i) KX G.T.g G.T.b G.T.builtins G.T.nolimit hg hobj hints (Nat.le_trans hlen hn2) hr (fun base hb hG => ?_) b3' (fun H hO hS => ?_) fun H e s' z => ?_
  · have := def_ok (P := l.prog) (w := w) (base := base) (d0 := default) hst c1 hb hG c.more n hi
    rw [eps, efa] at this
    exact this
  · exact law_sp (T := L.tb l.prog w K mg s₁.heap default) (by rw [eps]; rfl) hO hS (hm ns hlen)
  · obtain ⟨_, _, _, _, _, _, _, _, _, _, _, _, z⟩ := z
    exact z.elim
end PI
namespace PI
open PySem PySem.Spec PyProof.Rows L2
def top (i : Nat) : Stmt := PySem.Challenge.pw_sureheaps_k00_texts_as_tokens.main.body.getD i (.Pass ⟨0, 0, 0, 0⟩)
def dD (x : Str) (i : Nat) : He.DefD := ⟨(x, none), x, x, defArgs (top i), defBody (top i), defScope (top i), [], []⟩
def clsDef (i k : Nat) : Stmt := match top i with
  | .ClassDef (body := b) .. => b.getD k (.Pass ⟨0, 0, 0, 0⟩)
  | _ => .Pass ⟨0, 0, 0, 0⟩
def dM (c m q : Str) (i k : Nat) : He.DefD := ⟨(c, some m), m, q, defArgs (clsDef i k), defBody (clsDef i k), defScope (clsDef i k), [], []⟩
def lG : List (Str × GRef) := [
  ("HeapFault", .cls 0),
  ("TextFault", .cls 1),
  ("SMALL", .con (.str [97, 98, 99, 100, 101, 102, 103, 104, 105, 106, 107, 108, 109, 110, 111, 112, 113, 114, 115, 116, 117, 118, 119, 120, 121, 122])),
  ("GREAT", .con (.str [65, 66, 67, 68, 69, 70, 71, 72, 73, 74, 75, 76, 77, 78, 79, 80, 81, 82, 83, 84, 85, 86, 87, 88, 89, 90])),
  ("FIGURES", .con (.str [48, 49, 50, 51, 52, 53, 54, 55, 56, 57])),
  ("MARKS", .con (.tup [.str [40], .str [41], .str [123], .str [125], .str [44], .str [59], .str [61], .str [46], .str [42]])),
  ("token_end", .fn 0),
  ("tokens_of", .fn 1),
  ("_law_box", .fn 2),
  ("_law_digits", .fn 3),
  ("_law_cell", .fn 4),
  ("_law_draw", .fn 5),
  ("_law_same", .fn 6),
  ("_law_fault_of", .fn 7),
  ("law", .fn 8)]
def lDefs : List PD := [
  ⟨dD "token_end" 8, ["text", "place", "end"], ["text", "place"]⟩,
  ⟨dD "tokens_of" 9, ["text", "found", "place", "end"], ["text"]⟩,
  ⟨dD "_law_box" 11, ["script", "first", "last"], ["script", "first", "last"]⟩,
  ⟨dD "_law_digits" 12, ["script", "first", "last", "digits", "k", "cell", "turn", "seed"], ["script", "first", "last"]⟩,
  ⟨dD "_law_cell" 13, ["script", "k"], ["script", "k"]⟩,
  ⟨dD "_law_draw" 14, ["box", "many", "at"], ["box", "many"]⟩,
  ⟨dD "_law_same" 15, ["actual", "expected", "k"], ["actual", "expected"]⟩,
  ⟨dD "_law_fault_of" 16, ["text", "e"], ["text"]⟩,
  ⟨dD "law" 17, ["script", "box", "pieces", "text", "due", "k", "bad", "gap", "piece", "reason"], ["script"]⟩]
def lCn : List (Nat × Str × Bool) := [(0, "HeapFault", false), (1, "TextFault", true)]
def lInits : List (Nat × Str × He.DefD) := [(1, "HeapFault", dM "TextFault" "__init__" "TextFault.__init__" 2 0)]
def law : PLaw := ⟨lG, lDefs, lCn, lInits⟩
def loose0 : List Str := ["__name__", "HeapFault", "TextFault", "SMALL", "GREAT", "FIGURES", "MARKS", "token_end", "tokens_of", "_law_box", "_law_digits", "_law_cell", "_law_draw", "_law_same", "_law_fault_of"]
def loose : List Str := loose0
def lawIx : Nat := 8
def lawTop : Nat := 17
abbrev rw_ : PySem.W.OpenLaw := PySem.Challenge.rw_sureheaps_k00_texts_as_tokens

/-! ### the head -/
theorem stat : law.okB = true := by decide +kernel
abbrev R_ : PySem.W.OpenRow := PySem.W.OpenLaw.row rw_
abbrev hk : PySem.W.Hook := hookP 6 [.glo "law"] law.fns [] (exB law)
def ob (s : PySem.W.SharedT) : He.AlX := obsP 6 [.glo "law"] law.fns [] (exB law) (HandSHeadRun.getT s)
theorem ob_eq (s : PySem.W.SharedT) : ob s = hk.obs s.abs := obsP_eq (HandSHeadRun.getT_eq s)
theorem run (w : World) : HandSHeadRun.RunEq R_ (PySem.W.view R_.prog [lawTop]) hk ob 4000 loose w := by
  intro os
  kernel_rfl
theorem holds (hm : ∀ ns : List Int, ns.length ≤ 63 → ∃ st, callN law.prog 220 lawIx [.d (.lst (ns.map .int))] [] = .ok (.d (.bl true)) st) : rw_.Holds := by
  w_on; o_law
  refine HandSHeadRun.head_any (r := PySem.W.OpenLaw.row rw_) (q := PySem.W.view (PySem.W.OpenLaw.row rw_).prog [lawTop]) (H := hk) (ob := ob) (M := 4000) (loose := loose) (d := HandSHeadRun.topDef (PySem.W.OpenLaw.row rw_).prog lawTop) (kwd := []) ob_eq
    (by kernel_rfl) (fun s => by kernel_rfl) run (by kernel_rfl) (by kernel_rfl) (by kernel_rfl) (by rfl) (by first | assumption | decide +kernel) (by decide +kernel) ⟨rfl, rfl, rfl, rfl, rfl, by decide +kernel⟩ ?hw ?hc
  case hw => w_witness2
  case hc =>
    exact walkP (l := rw_) (L := law) (m := 63) (n := 220) (i := lawIx) rfl (by decide) (by kernel_rfl) ⟨rfl, by decide, by decide⟩ stat rfl rfl (by kernel_rfl) (by kernel_rfl) (by kernel_rfl) hm
end PI
/-! P00: k00's defs as terms. -/
namespace PI
open PySem
def s_SMALL : List Nat := [97, 98, 99, 100, 101, 102, 103, 104, 105, 106, 107, 108, 109, 110, 111, 112, 113, 114, 115, 116, 117, 118, 119, 120, 121, 122]
def s_GREAT : List Nat := [65, 66, 67, 68, 69, 70, 71, 72, 73, 74, 75, 76, 77, 78, 79, 80, 81, 82, 83, 84, 85, 86, 87, 88, 89, 90]
def s_FIGURES : List Nat := [48, 49, 50, 51, 52, 53, 54, 55, 56, 57]
def t_MARKS : List D := [.str [40], .str [41], .str [123], .str [125], .str [44], .str [59], .str [61], .str [46], .str [42]]
def F_token_end : Fn := ⟨2, 3, [.if_ (.cmp .isin (.ix (.v 0) (.v 1)) (.bin .add (.c (.str s_SMALL)) (.c (.str s_GREAT)))) [.asg (.name 2) (.v 1), .while_ (.and (.cmp .lt (.v 2) (.bcall .len [.v 0])) (.cmp .isin (.ix (.v 0) (.v 2)) (.bin .add (.bin .add (.c (.str s_SMALL)) (.c (.str s_GREAT))) (.c (.str s_FIGURES))))) [.aug 2 .add (.c (.int 1))], .if_ (.cmp .gt (.bin .sub (.v 2) (.v 1)) (.c (.int 10))) [.raise 1 [.v 1, .c (.str [116, 111, 111, 32, 108, 111, 110, 103])]] [], .ret (.v 2)] [], .if_ (.cmp .isin (.sl (.v 0) (some (.v 1)) (some (.bin .add (.v 1) (.c (.int 2))))) (.tup [.c (.str [45, 62]), .c (.str [33, 61])])) [.ret (.bin .add (.v 1) (.c (.int 2)))] [], .if_ (.cmp .notin (.ix (.v 0) (.v 1)) (.c (.tup t_MARKS))) [.raise 1 [.v 1, .c (.str [117, 110, 107, 110, 111, 119, 110, 32, 115, 105, 103, 110])]] [], .ret (.bin .add (.v 1) (.c (.int 1)))]⟩
def F_tokens_of : Fn := ⟨1, 4, [.asg (.name 1) (.lst []), .asg (.name 2) (.c (.int 0)), .while_ (.cmp .lt (.v 2) (.bcall .len [.v 0])) [.if_ (.cmp .isin (.ix (.v 0) (.v 2)) (.c (.str [32, 10]))) [.aug 2 .add (.c (.int 1))] [.if_ (.cmp .eq (.ix (.v 0) (.v 2)) (.c (.str [35]))) [.while_ (.and (.cmp .lt (.v 2) (.bcall .len [.v 0])) (.cmp .ne (.ix (.v 0) (.v 2)) (.c (.str [10])))) [.aug 2 .add (.c (.int 1))]] [.asg (.name 3) (.call 0 [.v 0, .v 2]), .expr (.bm .append (.v 1) [.tup [.sl (.v 0) (some (.v 2)) (some (.v 3)), .v 2]]), .asg (.name 2) (.v 3)]]], .ret (.v 1)]⟩
def F_law_box : Fn := ⟨3, 3, [.ret (.lst [.call 3 [.v 0, .v 1, .v 2], .c (.int 0)])]⟩
def F_law_digits : Fn := ⟨3, 8, [.asg (.name 3) (.lst []), .for_ (.name 4) (.r2 (.v 1) (.v 2)) [.asg (.name 5) (.call 4 [.v 0, .v 4]), .if_ (.cmp .lt (.v 5) (.c (.int 0))) [.asg (.name 5) (.bin .sub (.c (.int 1)) (.bin .mul (.c (.int 2)) (.v 5)))] [], .if_ (.cmp .ge (.v 5) (.bin .pow (.c (.int 10)) (.c (.int 18)))) [.for_ (.name 6) (.r1 (.c (.int 60))) [.if_ (.cmp .gt (.v 5) (.c (.int 0))) [.expr (.bm .append (.v 3) [.bin .mod (.bcall .int [.v 5]) (.c (.int 1000))]), .asg (.name 5) (.bin .fdiv (.v 5) (.c (.int 1000)))] []]] [.asg (.name 7) (.bin .mod (.bcall .int [.bin .add (.bin .add (.bin .mul (.v 5) (.c (.int 48271))) (.bin .mul (.v 4) (.c (.int 69621)))) (.c (.int 11))]) (.c (.int 2147483647))), .for_ (.name 6) (.r1 (.c (.int 12))) [.asg (.name 7) (.bin .mod (.bcall .int [.bin .add (.bin .add (.bin .mul (.v 7) (.c (.int 16807))) (.bin .mul (.c (.int 7)) (.v 6))) (.c (.int 1))]) (.c (.int 2147483647))), .expr (.bm .append (.v 3) [.bin .mod (.bcall .int [.bin .fdiv (.v 7) (.c (.int 997))]) (.c (.int 1000))])]]], .ret (.v 3)]⟩
def F_law_cell : Fn := ⟨2, 2, [.if_ (.cmp .lt (.v 1) (.bcall .len [.v 0])) [.ret (.ix (.v 0) (.v 1))] [], .ret (.c (.int 0))]⟩
def F_law_draw : Fn := ⟨2, 3, [.asg (.name 2) (.ix (.v 0) (.c (.int 1))), .asg (.sub (.v 0) (.c (.int 1))) (.bin .add (.v 2) (.c (.int 1))), .if_ (.cmp .lt (.v 2) (.bcall .len [.ix (.v 0) (.c (.int 0))])) [.ret (.bin .mod (.bcall .int [.ix (.ix (.v 0) (.c (.int 0))) (.v 2)]) (.v 1))] [], .ret (.c (.int 0))]⟩
def F_law_same : Fn := ⟨2, 3, [.if_ (.isi (.v 1) .tuple) [.if_ (.or (.not (.isi (.v 0) .tuple)) (.cmp .ne (.bcall .len [.v 0]) (.bcall .len [.v 1]))) [.ret (.c (.bl false))] [], .for_ (.name 2) (.r1 (.bcall .len [.v 1])) [.if_ (.not (.call 6 [.ix (.v 0) (.v 2), .ix (.v 1) (.v 2)])) [.ret (.c (.bl false))] []], .ret (.c (.bl true))] [], .if_ (.cmp .is (.v 1) (.c (.non))) [.ret (.cmp .is (.v 0) (.c (.non)))] [], .if_ (.isi (.v 1) .bool) [.ret (.and (.isi (.v 0) .bool) (.cmp .eq (.v 0) (.v 1)))] [], .if_ (.isi (.v 1) .int) [.ret (.and (.isi (.v 0) .int) (.and (.not (.isi (.v 0) .bool)) (.cmp .eq (.v 0) (.v 1))))] [], .ret (.and (.isi (.v 0) .str) (.cmp .eq (.v 0) (.v 1)))]⟩
def F_law_fault_of : Fn := ⟨1, 2, [.try_ [.expr (.call 1 [.v 0])] 0 (.fields 1 [1, 0]), .ret (.c (.non))]⟩
def F_law : Fn := ⟨1, 10, [.asg (.name 1) (.call 2 [.v 0, .c (.int 0), .c (.int 62)]), .asg (.name 2) (.lst [.c (.str [112, 114, 111, 99]), .c (.str [120, 49]), .c (.str [67, 111, 110, 115]), .c (.str [97, 66, 99, 68, 101, 70, 103, 72, 105, 49]), .c (.str [45, 62]), .c (.str [33, 61]), .c (.str [40]), .c (.str [41]), .c (.str [123]), .c (.str [125]), .c (.str [44]), .c (.str [59]), .c (.str [61]), .c (.str [46]), .c (.str [42])]), .asg (.name 3) (.c (.str [])), .asg (.name 4) (.lst []), .for_ (.name 5) (.r1 (.call 5 [.v 1, .c (.int 31)])) [.asg (.name 7) (.ix (.lst [.c (.str [32]), .c (.str [10]), .c (.str [32, 32]), .c (.str [32, 35, 32, 122, 45, 62, 36, 32, 49, 10])]) (.call 5 [.v 1, .c (.int 4)])), .asg (.name 8) (.ix (.v 2) (.call 5 [.v 1, .bcall .len [.v 2]])), .expr (.bm .append (.v 4) [.tup [.v 8, .bcall .len [.v 3]]]), .asg (.name 3) (.bin .add (.bin .add (.v 3) (.v 8)) (.v 7))], .if_ (.or (.not (.call 6 [.bcall .tuple [.call 1 [.v 3]], .bcall .tuple [.v 4]])) (.cmp .isnt (.call 7 [.v 3]) (.c (.non)))) [.ret (.c (.bl false))] [], .if_ (.not (.call 6 [.bcall .tuple [.call 1 [.c (.str [120, 46, 110, 101, 120, 116, 61, 121, 59])]], .tup [.tup [.c (.str [120]), .c (.int 0)], .tup [.c (.str [46]), .c (.int 1)], .tup [.c (.str [110, 101, 120, 116]), .c (.int 2)], .tup [.c (.str [61]), .c (.int 6)], .tup [.c (.str [121]), .c (.int 7)], .tup [.c (.str [59]), .c (.int 8)]]])) [.ret (.c (.bl false))] [], .asg (.name 6) (.lst [.tup [.c (.str [97, 98, 99, 100, 101, 102, 103, 104, 105, 106, 107]), .c (.str [116, 111, 111, 32, 108, 111, 110, 103])], .tup [.c (.str [49]), .c (.str [117, 110, 107, 110, 111, 119, 110, 32, 115, 105, 103, 110])], .tup [.c (.str [33]), .c (.str [117, 110, 107, 110, 111, 119, 110, 32, 115, 105, 103, 110])], .tup [.c (.str [45]), .c (.str [117, 110, 107, 110, 111, 119, 110, 32, 115, 105, 103, 110])], .tup [.c (.str [62]), .c (.str [117, 110, 107, 110, 111, 119, 110, 32, 115, 105, 103, 110])], .tup [.c (.str [124]), .c (.str [117, 110, 107, 110, 111, 119, 110, 32, 115, 105, 103, 110])]]), .asg (.tup [8, 9]) (.ix (.v 6) (.call 5 [.v 1, .c (.int 6)])), .if_ (.not (.call 6 [.call 7 [.bin .add (.bin .add (.v 3) (.v 8)) (.c (.str [32, 48, 32, 38]))], .tup [.bcall .len [.v 3], .v 9]])) [.ret (.c (.bl false))] [], .ret (.cmp .is (.call 7 [.bin .add (.bin .add (.v 3) (.c (.str [35, 32]))) (.v 8)]) (.c (.non)))]⟩
/-- a program that has these defs at these places -/
structure Has (P : List Fn) : Prop where
  token_end : P[0]? = some F_token_end
  tokens_of : P[1]? = some F_tokens_of
  law_box : P[2]? = some F_law_box
  law_digits : P[3]? = some F_law_digits
  law_cell : P[4]? = some F_law_cell
  law_draw : P[5]? = some F_law_draw
  law_same : P[6]? = some F_law_same
  law_fault_of : P[7]? = some F_law_fault_of
  law : P[8]? = some F_law
theorem has : Has law.prog := ⟨by kernel_rfl, by kernel_rfl, by kernel_rfl, by kernel_rfl, by kernel_rfl, by kernel_rfl, by kernel_rfl, by kernel_rfl, by kernel_rfl⟩
end PI
/-! CALL: calls of the interpreter at plain arguments. -/
namespace PX
open PI

theorem mapM_ren {f : Nat → Option Nat} : ∀ ds : List D, (ds.map Val.d).mapM (renV f) = some (ds.map Val.d)
  | [] => rfl
  | d :: ds => by
    rw [List.map_cons, List.mapM_cons, mapM_ren ds]
    rfl
theorem locs_ds : ∀ ds : List D, (ds.map Val.d).flatMap Val.locs = []
  | [] => rfl
  | d :: ds => by
    rw [List.map_cons, List.flatMap_cons, locs_ds ds]
    rfl
theorem reach_nil {st : Store} {n : Nat} : reach st n [] [] = [] := by cases n <;> rfl
theorem back_nil {α : Type} {st st2 : Store} {fin : (Nat → Option Nat) → Option α} {a : α} (h : ∀ f, fin f = some a) : back [] st st2 [] fin = some (a, st) := by
  unfold back
  simp only [List.length_nil, List.range_zero, List.nil_append, reach_nil, List.filter_nil]
  simp [putAll, h]
/-- at data, giving data -/
theorem framed_d {g : List Val → Store → R Val} {ds : List D} {st st2 : Store} {x : D} (h : g (ds.map .d) [] = .ok (.d x) st2) : framed g (ds.map .d) st = .ok (.d x) st := by
  have e0 : ([] : List Nat).mapM (objAt st (renN [])) = some [] := rfl
  unfold framed
  simp only [locs_ds, reach_nil, mapM_ren, e0, h]
  rw [show (Val.d x).locs = [] from rfl, back_nil (fin := fun f => renV f (Val.d x)) (a := Val.d x) fun _ => rfl]
theorem framed_x {g : List Val → Store → R Val} {ds : List D} {st st2 : Store} {x : Exn} (h : g (ds.map .d) [] = .exc x st2) : framed g (ds.map .d) st = .exc x st := by
  have e0 : ([] : List Nat).mapM (objAt st (renN [])) = some [] := rfl
  unfold framed
  simp only [locs_ds, reach_nil, mapM_ren, e0, h]
  rw [back_nil (a := ()) fun _ => rfl]
/-- at data, giving a new flat list -/
theorem framed_l {g : List Val → Store → R Val} {ds xs : List D} {st st2 : Store} {l : Nat} (h : g (ds.map .d) [] = .ok (.loc l) st2) (hl : st2[l]? = some (.lst xs)) : framed g (ds.map .d) st = .ok (.loc st.length) (st ++ [.lst xs]) := by
  have e0 : ([] : List Nat).mapM (objAt st (renN [])) = some [] := rfl
  unfold framed
  simp only [locs_ds, reach_nil, mapM_ren, e0, h]
  have e : reach st2 1000 [l] [] = [l] := by
    rw [reach]
    simp only [List.contains_nil, Bool.false_eq_true, if_false, hl, Obj.locs, List.nil_append]
    cases h : (999 : Nat) <;> rfl
  unfold back
  simp only [Val.locs, List.length_nil, List.range_zero, List.nil_append, e]
  simp [putAll, renN, renV, objAt, hl, renO]
theorem callN_d {P : List Fn} {n f : Nat} {F : Fn} {ds : List D} {st st2 : Store} {x : D} (hf : P[f]? = some F) (h : runF (callN P n) F (ds.map .d) [] = .ok (.d x) st2) : callN P (n + 1) f (ds.map .d) st = .ok (.d x) st := by
  rw [callN, hf]
  exact framed_d h
theorem callN_x {P : List Fn} {n f : Nat} {F : Fn} {ds : List D} {st st2 : Store} {x : Exn} (hf : P[f]? = some F) (h : runF (callN P n) F (ds.map .d) [] = .exc x st2) : callN P (n + 1) f (ds.map .d) st = .exc x st := by
  rw [callN, hf]
  exact framed_x h
theorem callN_l {P : List Fn} {n f : Nat} {F : Fn} {ds xs : List D} {st st2 : Store} {l : Nat} (hf : P[f]? = some F) (h : runF (callN P n) F (ds.map .d) [] = .ok (.loc l) st2) (hl : st2[l]? = some (.lst xs)) :
    callN P (n + 1) f (ds.map .d) st = .ok (.loc st.length) (st ++ [.lst xs]) := by
  rw [callN, hf]
  exact framed_l h hl
end PX
/-! EXL: the interpreter's small steps as equations, to be used by simp only. -/
namespace PX
open PI
section
variable {α β : Type} {st : Store} {i j : Int} {x y : List Nat} {b : Bool} {c : Nat}
theorem bind_ok {a : α} {f : α → Store → R β} : (R.ok a st).bind f = f a st := (rfl)
theorem bind_exc {e : Exn} {f : α → Store → R β} : (R.exc e st : R α).bind f = .exc e st := (rfl)
theorem bind_bad {f : α → Store → R β} : (R.bad : R α).bind f = .bad := (rfl)
theorem ofO_some {a : α} : ofO (some a) st = .ok a st := (rfl)
theorem ite_tt {p q : α} : (if true = true then p else q) = p := (rfl)
theorem ite_ff {p q : α} : (if false = true then p else q) = q := (rfl)
theorem ixN_nat {n p : Nat} (h : p < n) : ixN n (p : Int) = some p := by simp [ixN, h]
theorem ixN_zero {n : Nat} (h : 0 < n) : ixN n 0 = some 0 := by simp [ixN, h]
theorem if_T {p q : α} : (if True then p else q) = p := if_pos trivial
theorem if_F {p q : α} : (if False then p else q) = q := if_neg id
theorem bind_congr {r r' : R α} {f : α → Store → R β} (h : r = r') : r.bind f = r'.bind f := by rw [h]
section
variable {cf : CF} {env : Env} {e a k : E} {es : List E} {o o' : CmpO} {p : Op2}
theorem evs_nil' : evs cf [] env st = .ok [] st := by rw [evs]
theorem ev_c {x : D} : ev cf (.c x) env st = .ok (.d x) st := (rfl)
theorem ev_v {i : Nat} : ev cf (.v i) env st = match env[i]? with
    | some (some v) => .ok v st
    | _ => .bad := by rw [ev] <;> rfl
theorem ev_tup : ev cf (.tup es) env st = (evs cf es env st).bind fun vs st => match vs.mapM Val.data? with
    | some ds => if ds.length ≤ big then .ok (.d (.tup ds)) st else .bad
    | none => .bad := by rw [ev] <;> rfl
theorem ev_lst : ev cf (.lst es) env st = (evs cf es env st).bind fun vs st => if vs.length ≤ big then alloc (mkLst vs) st else .bad := by rw [ev]
theorem ev_lst_nil : ev cf (.lst []) env st = .ok (.loc st.length) (st ++ [.lst []]) := by
  have h : ([] : List Val).length ≤ big := Nat.zero_le _
  rw [ev_lst, evs_nil', bind_ok, if_pos h]
  rfl
theorem ev_bin : ev cf (.bin p e a) env st = (ev cf e env st).bind fun x st => (ev cf a env st).bind fun y st => bin p x y st := by rw [ev]
theorem ev_cmp : ev cf (.cmp o e a) env st = (ev cf e env st).bind fun x st => (ev cf a env st).bind fun y st => ofO ((cmp o x y st).map fun k => .d (.bl k)) st := by rw [ev]
theorem ev_cmp2 : ev cf (.cmp2 o o' e a k) env st = (ev cf e env st).bind fun x st => (ev cf a env st).bind fun y st => (ofO (cmp o x y st) st).bind fun b st =>
      if b then (ev cf k env st).bind fun z st => ofO ((cmp o' y z st).map fun k => .d (.bl k)) st else .ok (.d (.bl false)) st := by rw [ev]
theorem ev_and : ev cf (.and e a) env st = (ev cf e env st).bind fun x st => (ofO (truthy st x) st).bind fun k st => if k then ev cf a env st else .ok x st := by rw [ev]
theorem ev_or : ev cf (.or e a) env st = (ev cf e env st).bind fun x st => (ofO (truthy st x) st).bind fun k st => if k then .ok x st else ev cf a env st := by rw [ev]
theorem ev_not : ev cf (.not e) env st = (ev cf e env st).bind fun x st => (ofO (truthy st x) st).bind fun k st => .ok (.d (.bl (!k))) st := by rw [ev]
theorem ev_ite : ev cf (.ite k e a) env st = (ev cf k env st).bind fun x st => (ofO (truthy st x) st).bind fun k st => if k then ev cf e env st else ev cf a env st := by rw [ev]
theorem ev_ix : ev cf (.ix e a) env st = (ev cf e env st).bind fun x st => (ev cf a env st).bind fun y st => index x y st := by rw [ev]
theorem ev_sl {lo hi : Option E} : ev cf (.sl e lo hi) env st = (ev cf e env st).bind fun x st => (evo cf lo env st).bind fun l st => if (optInt l).isSome then (evo cf hi env st).bind fun h st => slice x l h st else .bad := by rw [ev]
theorem ev_call {f : Nat} : ev cf (.call f es) env st = (evs cf es env st).bind fun vs st => cf f vs st := by rw [ev]
theorem ev_bcall {f : BF} : ev cf (.bcall f es) env st = (evs cf es env st).bind fun vs st => PI.bcall f vs st := by rw [ev]
theorem ev_isi {t : Ty} : ev cf (.isi e t) env st = (ev cf e env st).bind fun x st => ofO ((isTy st t x).map fun k => .d (.bl k)) st := by rw [ev]
theorem ev_bm {m : BM} : ev cf (.bm m e es) env st = (ev cf e env st).bind fun x st => if recv m st x then (evs cf es env st).bind fun vs st => bmeth m x vs st else .bad := by rw [ev]
theorem evs_nil : evs cf [] env st = .ok [] st := by rw [evs]
theorem evs_cons : evs cf (e :: es) env st = (ev cf e env st).bind fun x st => (evs cf es env st).bind fun xs st => .ok (x :: xs) st := by rw [evs]
theorem evo_none : evo cf none env st = .ok none st := by rw [evo]
theorem evo_some : evo cf (some e) env st = (ev cf e env st).bind fun x st => .ok (some x) st := by rw [evo]
theorem tr_eq : tr cf e env st = (ev cf e env st).bind fun x st => ofO (truthy st x) st := (rfl)
/-! targets, statements -/
theorem asg_name {i : Nat} {v : Val} : asg cf (.name i) v env st = .ok (env.set i (some v)) st := (rfl)
theorem asg_tup {is : List Nat} {xs : List D} : asg cf (.tup is) (.d (.tup xs)) env st = ofO (setAll is xs env) st := (rfl)
theorem asg_sub {v : Val} : asg cf (.sub e a) v env st = (ev cf e env st).bind fun x st => (ev cf a env st).bind fun y st => (setItem x y v st).bind fun _ st => .ok env st := by rw [asg]
theorem setAll_nil : setAll [] [] env = some env := (rfl)
theorem setAll_cons {i : Nat} {is : List Nat} {x : D} {xs : List D} : setAll (i :: is) (x :: xs) env = setAll is xs (env.set i (some (.d x))) := (rfl)
/-- a while, a for, as they stand -/
def wh (cf : CF) (c : E) (b : List S) (env : Env) (st : Store) : R Fl := whileF (tr cf c) (exs cf b) fuel env st
def fo (cf : CF) (t : PI.T) (it : PI.It) (b : List S) (env : Env) (st : Store) : R Fl := forI cf (asg cf t) (exs cf b) it env st
variable {t : PI.T} {s : S} {ss sa sb : List S}
theorem ex_asg : ex cf (.asg t e) env st = (ev cf e env st).bind fun v st => (asg cf t v env st).bind fun env st => .ok (.nx env) st := by rw [ex]
theorem ex_aug {i : Nat} : ex cf (.aug i p e) env st = match env[i]? with
    | some (some x) => (ev cf e env st).bind fun y st => (binI p x y st).bind fun z st => .ok (.nx (env.set i (some z))) st
    | _ => .bad := by
  rw [ex] <;> rfl
theorem ex_expr : ex cf (.expr e) env st = (ev cf e env st).bind fun _ st => .ok (.nx env) st := by rw [ex]
theorem ex_ret : ex cf (.ret e) env st = (ev cf e env st).bind fun v st => .ok (.rt v) st := by rw [ex]
theorem ex_retN : ex cf .retN env st = .ok (.rt (.d .non)) st := by rw [ex]
theorem ex_if : ex cf (.if_ e sa sb) env st = (tr cf e env st).bind fun k st => if k then exs cf sa env st else exs cf sb env st := by rw [ex]
theorem ex_while : ex cf (.while_ e sa) env st = wh cf e sa env st := by rw [ex] <;> rfl
theorem ex_for {it : PI.It} : ex cf (.for_ t it sa) env st = fo cf t it sa env st := by rw [ex] <;> rfl
theorem ex_brk : ex cf .brk env st = .ok (.bk env) st := by rw [ex]
theorem ex_cnt : ex cf .cnt env st = .ok (.ct env) st := by rw [ex]
theorem ex_pass : ex cf .pass env st = .ok (.nx env) st := by rw [ex]
theorem ex_raise {c : Nat} : ex cf (.raise c es) env st = (evs cf es env st).bind fun vs st => match vs with
    | [.d p, .d r] => .exc ⟨c, [r, p]⟩ st
    | _ => .bad := by
  rw [ex] <;> rfl
theorem exs_nil : exs cf [] env st = .ok (.nx env) st := by rw [exs]
theorem exs_cons : exs cf (s :: ss) env st = (ex cf s env st).bind fun f st => match f with
    | .nx env => exs cf ss env st
    | f => .ok f st := by rw [exs] <;> rfl
theorem exs_nx {env1 : Env} {st1 : Store} (h : ex cf s env st = .ok (.nx env1) st1) : exs cf (s :: ss) env st = exs cf ss env1 st1 := by
  rw [exs_cons, h, bind_ok]
theorem ex_set {i : Nat} {v : Val} {st1 : Store} (h : ev cf e env st = .ok v st1) : ex cf (.asg (.name i) e) env st = .ok (.nx (env.set i (some v))) st1 := by
  rw [ex_asg, h, bind_ok, asg_name, bind_ok]
end
/-! arithmetic -/
theorem add_int : bin .add (.d (.int i)) (.d (.int j)) st = .ok (.d (.int (i + j))) st := (rfl)
theorem sub_int : bin .sub (.d (.int i)) (.d (.int j)) st = .ok (.d (.int (i - j))) st := (rfl)
theorem add_str (h : x.length + y.length ≤ big) : bin .add (.d (.str x)) (.d (.str y)) st = .ok (.d (.str (x ++ y))) st := by
  show (if _ then _ else _) = _
  rw [if_pos h]
theorem add_tup {x y : List D} (h : x.length + y.length ≤ big) : bin .add (.d (.tup x)) (.d (.tup y)) st = .ok (.d (.tup (x ++ y))) st := by
  show (if _ then _ else _) = _
  rw [if_pos h]
theorem mul_int (h : mulOk i j = true) : bin .mul (.d (.int i)) (.d (.int j)) st = .ok (.d (.int (i * j))) st := by
  show (if _ then _ else _) = _
  rw [if_pos h]
theorem fdiv_int (h : 0 < j ∧ j < 1073741824) : bin .fdiv (.d (.int i)) (.d (.int j)) st = .ok (.d (.int (i / j))) st := by
  show (if _ then _ else _) = _
  rw [if_pos h]
theorem mod_int (h : 0 < j) : bin .mod (.d (.int i)) (.d (.int j)) st = .ok (.d (.int (i % j))) st := by
  show (if _ then _ else _) = _
  rw [if_pos h]
theorem iadd_int : binI .add (.d (.int i)) (.d (.int j)) st = .ok (.d (.int (i + j))) st := (rfl)
theorem isub_int : binI .sub (.d (.int i)) (.d (.int j)) st = .ok (.d (.int (i - j))) st := (rfl)
theorem iadd_str (h : x.length + y.length ≤ big) : binI .add (.d (.str x)) (.d (.str y)) st = .ok (.d (.str (x ++ y))) st := by
  show (if _ then _ else _) = _
  rw [if_pos h]
/-! comparisons -/
theorem lt_int : cmp .lt (.d (.int i)) (.d (.int j)) st = some (decide (i < j)) := (rfl)
theorem le_int : cmp .le (.d (.int i)) (.d (.int j)) st = some (decide (i ≤ j)) := (rfl)
theorem gt_int : cmp .gt (.d (.int i)) (.d (.int j)) st = some (decide (j < i)) := (rfl)
theorem ge_int : cmp .ge (.d (.int i)) (.d (.int j)) st = some (decide (j ≤ i)) := (rfl)
theorem eq_data {a c : D} (h : dle 60 a = true ∨ dle 60 c = true) : cmp .eq (.d a) (.d c) st = some (eqv a c) := by
  show (if _ then _ else _) = _
  rw [if_pos (by simpa using h)]
theorem ne_data {a c : D} (h : dle 60 a = true ∨ dle 60 c = true) : cmp .ne (.d a) (.d c) st = some (!eqv a c) := by
  show ((if _ then _ else _ : Option Bool).map _) = _
  rw [if_pos (by simpa using h)]
  rfl
theorem eq_int : cmp .eq (.d (.int i)) (.d (.int j)) st = some (decide (i = j)) := by
  rw [eq_data (.inl rfl)]
  simp only [eqv]
  congr 1
theorem ne_int : cmp .ne (.d (.int i)) (.d (.int j)) st = some (!decide (i = j)) := by
  rw [ne_data (.inl rfl)]
  simp only [eqv]
  congr 1
theorem eq_str : cmp .eq (.d (.str x)) (.d (.str y)) st = some (decide (x = y)) := by
  rw [eq_data (.inl rfl)]
  simp only [eqv]
  congr 1
  rw [Bool.eq_iff_iff]; simp
theorem ne_str : cmp .ne (.d (.str x)) (.d (.str y)) st = some (!decide (x = y)) := by
  rw [ne_data (.inl rfl)]
  simp only [eqv]
  congr 2
  rw [Bool.eq_iff_iff]; simp
theorem isin_chr : cmp .isin (.d (.str [c])) (.d (.str y)) st = some (y.contains c) := (rfl)
theorem notin_chr : cmp .notin (.d (.str [c])) (.d (.str y)) st = some (!y.contains c) := (rfl)
theorem cmpIn_tup {a : D} {ys : List D} : cmpIn (.d a) (.d (.tup ys)) st = inD a ys := by
  cases a <;> rfl
theorem isin_tup {a : D} {ys : List D} (h : dle 60 a = true) : cmp .isin (.d a) (.d (.tup ys)) st = some (ys.any fun y => eqv y a) := by
  show cmpIn _ _ _ = _
  rw [cmpIn_tup]
  show (if _ then _ else _) = _
  rw [if_pos h]
theorem notin_tup {a : D} {ys : List D} (h : dle 60 a = true) : cmp .notin (.d a) (.d (.tup ys)) st = some (!ys.any fun y => eqv y a) := by
  show (cmpIn _ _ _).map _ = _
  rw [cmpIn_tup]
  show ((if _ then _ else _ : Option Bool).map _) = _
  rw [if_pos h]
  rfl
theorem is_non {v : Val} : cmp .is v (.d .non) st = some (isNone v) := (rfl)
theorem isnt_non {v : Val} : cmp .isnt v (.d .non) st = some (!isNone v) := (rfl)
theorem non_non : isNone (.d .non) = true := (rfl)
theorem non_int : isNone (.d (.int i)) = false := (rfl)
theorem non_str : isNone (.d (.str x)) = false := (rfl)
theorem non_tup {xs : List D} : isNone (.d (.tup xs)) = false := (rfl)
theorem non_bl : isNone (.d (.bl b)) = false := (rfl)
theorem non_loc {l : Nat} : isNone (.loc l) = false := (rfl)
/-! truth -/
theorem tru_bl : truthy st (.d (.bl b)) = some b := (rfl)
theorem tru_int : truthy st (.d (.int i)) = some (i != 0) := (rfl)
theorem tru_non : truthy st (.d .non) = some false := (rfl)
theorem tru_str : truthy st (.d (.str x)) = some (!x.isEmpty) := (rfl)
theorem tru_tup {xs : List D} : truthy st (.d (.tup xs)) = some (!xs.isEmpty) := (rfl)
/-! lengths, indices, slices -/
theorem len_str : PI.bcall .len [.d (.str x)] st = .ok (.d (.int x.length)) st := (rfl)
theorem len_tup {xs : List D} : PI.bcall .len [.d (.tup xs)] st = .ok (.d (.int xs.length)) st := (rfl)
theorem len_lst {xs : List D} : PI.bcall .len [.d (.lst xs)] st = .ok (.d (.int xs.length)) st := by
  show R.ok (Val.d (.int ((xs.map Val.d).length : Nat))) st = _
  rw [List.length_map]
theorem len_loc {l : Nat} {xs : List D} (h : st[l]? = some (.lst xs)) : PI.bcall .len [.loc l] st = .ok (.d (.int xs.length)) st := by
  simp [PI.bcall, listAt, h, Obj.items?]
theorem len_locV {l : Nat} {xs : List Val} (h : st[l]? = some (.lstV xs)) : PI.bcall .len [.loc l] st = .ok (.d (.int xs.length)) st := by
  simp [PI.bcall, listAt, h, Obj.items?]
theorem int_int : PI.bcall .int [.d (.int i)] st = .ok (.d (.int i)) st := (rfl)
theorem tuple_tup {xs : List D} : PI.bcall .tuple [.d (.tup xs)] st = .ok (.d (.tup xs)) st := (rfl)
theorem mapM_data : ∀ {ds : List D}, (ds.map Val.d).mapM Val.data? = some ds
  | [] => rfl
  | d :: ds => by
    rw [List.map_cons, List.mapM_cons, mapM_data]
    rfl
theorem tuple_loc {l : Nat} {xs : List D} (h : st[l]? = some (.lst xs)) : PI.bcall .tuple [.loc l] st = .ok (.d (.tup xs)) st := by
  simp only [PI.bcall, listAt, h, Obj.items?, mapM_data]
theorem index_str {k : Nat} (hk : ixN x.length i = some k) (h : x[k]? = some c) : index (.d (.str x)) (.d (.int i)) st = .ok (.d (.str [c])) st := by
  simp only [index, hk, h]
theorem index_tup {xs : List D} {k : Nat} {d : D} (hk : ixN xs.length i = some k) (h : xs[k]? = some d) : index (.d (.tup xs)) (.d (.int i)) st = .ok (.d d) st := by
  simp only [index, hk, h]
theorem index_lst {xs : List D} {k : Nat} {d : D} (hk : ixN xs.length i = some k) (h : xs[k]? = some d) : index (.d (.lst xs)) (.d (.int i)) st = .ok (.d d) st := by
  simp only [index, listAt, List.length_map, hk, List.getElem?_map, h, Option.map_some]
theorem index_loc {l : Nat} {xs : List D} {k : Nat} {d : D} (hl : st[l]? = some (.lst xs)) (hk : ixN xs.length i = some k) (h : xs[k]? = some d) : index (.loc l) (.d (.int i)) st = .ok (.d d) st := by
  simp only [index, listAt, hl, Obj.items?, List.length_map, hk, List.getElem?_map, h, Option.map_some]
theorem index_locV {l : Nat} {xs : List Val} {k : Nat} {d : Val} (hl : st[l]? = some (.lstV xs)) (hk : ixN xs.length i = some k) (h : xs[k]? = some d) : index (.loc l) (.d (.int i)) st = .ok d st := by
  simp only [index, listAt, hl, Obj.items?, hk, h]
/-- what lies between two places -/
theorem cut_nat {α : Type} {xs : List α} {p q : Nat} (h : p ≤ xs.length) : cut xs (some (p : Int)) (some (q : Int)) = (xs.drop p).take (q - p) := by
  have a1 : ¬ (p : Int) < 0 := by omega
  have a2 : ¬ (q : Int) < 0 := by omega
  unfold cut sIx
  simp only [a1, a2, if_false, Int.toNat_natCast]
  rw [show min p xs.length = p by omega, List.take_eq_take_iff, List.length_drop]
  omega
theorem slice_str {lo hi : Option Int} {l h : Option Val} (e1 : optInt l = some lo) (e2 : optInt h = some hi) : slice (.d (.str x)) l h st = .ok (.d (.str (cut x lo hi))) st := by
  simp only [slice, e1, e2]
theorem slice_tup {xs : List D} {lo hi : Option Int} {l h : Option Val} (e1 : optInt l = some lo) (e2 : optInt h = some hi) : slice (.d (.tup xs)) l h st = .ok (.d (.tup (cut xs lo hi))) st := by
  simp only [slice, e1, e2]
theorem opt_int : optInt (some (.d (.int i))) = some (some i) := (rfl)
theorem opt_none : optInt none = some none := (rfl)
/-! kinds -/
theorem ty_int {t : Ty} : isTy st t (.d (.int i)) = some (match t with | .int => true | _ => false) := (rfl)
theorem ty_bl {t : Ty} : isTy st t (.d (.bl b)) = some (match t with | .bool => true | .int => true | _ => false) := (rfl)
theorem ty_str {t : Ty} : isTy st t (.d (.str x)) = some (match t with | .str => true | _ => false) := (rfl)
theorem ty_tup {t : Ty} {xs : List D} : isTy st t (.d (.tup xs)) = some (match t with | .tuple => true | _ => false) := (rfl)
theorem ty_non {t : Ty} : isTy st t (.d .non) = some false := (rfl)
/-! lists of the store -/
theorem alloc_eq {o : Obj} : alloc o st = .ok (.loc st.length) (st ++ [o]) := (rfl)
theorem mkLst_data {ds : List D} : mkLst (ds.map Val.d) = .lst ds := by
  unfold mkLst
  rw [mapM_data]
theorem mkLst_nil : mkLst [] = .lst [] := (rfl)
theorem recv_loc {l : Nat} {xs : List D} (h : st[l]? = some (.lst xs)) : recv .append st (.loc l) = true := by
  simp only [recv, h]
theorem app_data {l : Nat} {xs : List D} {d : D} (h : st[l]? = some (.lst xs)) (hz : xs.length < big) : bmeth .append (.loc l) [.d d] st = .ok (.d .non) (st.set l (.lst (xs ++ [d]))) := by
  simp only [bmeth, h]
  rw [if_pos hz]
end
end PX
/-! M00a: tokens, walked. -/
namespace PX
open PI

def LET : List Nat := s_SMALL ++ s_GREAT
def ALN : List Nat := s_SMALL ++ s_GREAT ++ s_FIGURES
theorem lens : s_SMALL.length = 26 ∧ s_GREAT.length = 26 ∧ s_FIGURES.length = 10 := ⟨rfl, rfl, rfl⟩
/-! ### token_end -/
abbrev teC : E := .and (.cmp .lt (.v 2) (.bcall .len [.v 0])) (.cmp .isin (.ix (.v 0) (.v 2)) (.bin .add (.bin .add (.c (.str s_SMALL)) (.c (.str s_GREAT))) (.c (.str s_FIGURES))))
abbrev teB : List S := [.aug 2 .add (.c (.int 1))]
section
variable {cf : CF} {t : List Nat} {st : Store}
theorem al1 : s_SMALL.length + s_GREAT.length ≤ big := by decide
theorem al2 : (s_SMALL ++ s_GREAT).length + s_FIGURES.length ≤ big := by decide
theorem te_cond {p : Val} {e c : Nat} (h : t[e]? = some c) : tr cf teC [some (.d (.str t)), some p, some (.d (.int e))] st = .ok (ALN.contains c) st := by
  have hp : e < t.length := (List.getElem?_eq_some_iff.mp h).1
  have e2 : (e : Int) < (t.length : Int) := by omega
  simp only [exs_nil, exs_cons, ex_asg, ex_aug, ex_expr, ex_ret, ex_retN, ex_if, ex_while, ex_for, ex_brk, ex_cnt, ex_pass, ex_raise, ev_c, ev_v, ev_tup, ev_lst, ev_bin, ev_cmp, ev_cmp2, ev_and, ev_or, ev_not, ev_ite, ev_ix, ev_sl, ev_call, ev_bcall, ev_isi, ev_bm, evs_nil, evs_cons, evo_none, evo_some, tr_eq, asg_name, asg_tup, asg_sub, setAll_nil, setAll_cons, bind_ok, bind_exc, ofO_some, List.getElem?_cons_zero, List.getElem?_cons_succ, List.set_cons_zero, List.set_cons_succ, Option.map_some, ite_tt, ite_ff, if_T, if_F, add_int, sub_int, iadd_int, isub_int, lt_int, le_int, gt_int, ge_int, eq_int, ne_int, eq_str, ne_str, isin_chr, notin_chr, is_non, isnt_non, non_non, non_int, non_str, non_tup, non_bl, non_loc, tru_bl, tru_int, tru_non, len_str, len_tup, len_lst, int_int, tuple_tup, ty_int, ty_bl, ty_str, ty_tup, ty_non, opt_int, opt_none, Option.isSome_some, Bool.not_true, Bool.not_false, decide_true, decide_false, Bool.false_eq_true, e2, index_str (ixN_nat hp) h, add_str al1, add_str al2]
  rfl
theorem te_stop {p : Val} {e : Nat} (h : t.length ≤ e) : tr cf teC [some (.d (.str t)), some p, some (.d (.int e))] st = .ok false st := by
  have : ¬ (e : Int) < (t.length : Int) := by omega
  simp only [exs_nil, exs_cons, ex_asg, ex_aug, ex_expr, ex_ret, ex_retN, ex_if, ex_while, ex_for, ex_brk, ex_cnt, ex_pass, ex_raise, ev_c, ev_v, ev_tup, ev_lst, ev_bin, ev_cmp, ev_cmp2, ev_and, ev_or, ev_not, ev_ite, ev_ix, ev_sl, ev_call, ev_bcall, ev_isi, ev_bm, evs_nil, evs_cons, evo_none, evo_some, tr_eq, asg_name, asg_tup, asg_sub, setAll_nil, setAll_cons, bind_ok, bind_exc, ofO_some, List.getElem?_cons_zero, List.getElem?_cons_succ, List.set_cons_zero, List.set_cons_succ, Option.map_some, ite_tt, ite_ff, if_T, if_F, add_int, sub_int, iadd_int, isub_int, lt_int, le_int, gt_int, ge_int, eq_int, ne_int, eq_str, ne_str, isin_chr, notin_chr, is_non, isnt_non, non_non, non_int, non_str, non_tup, non_bl, non_loc, tru_bl, tru_int, tru_non, len_str, len_tup, len_lst, int_int, tuple_tup, ty_int, ty_bl, ty_str, ty_tup, ty_non, opt_int, opt_none, Option.isSome_some, Bool.not_true, Bool.not_false, decide_true, decide_false, Bool.false_eq_true, this, decide_false]
theorem te_loop {p : Val} : ∀ (r : List Nat) (e m : Nat), t.drop e = r → r.length < m →
    whileF (tr cf teC) (exs cf teB) m [some (.d (.str t)), some p, some (.d (.int e))] st = .ok (.nx [some (.d (.str t)), some p, some (.d (.int (e + (r.takeWhile ALN.contains).length : Nat)))]) st
  | [], e, m + 1, h, hm => by
    have : t.length ≤ e := List.drop_eq_nil_iff.mp h
    rw [whileF, te_stop this]
    rfl
  | c :: r, e, m + 1, h, hm => by
    have h1 : t[e]? = some c := by
      have := congrArg (fun l : List Nat => l[0]?) h
      simpa using this
    have h2 : t.drop (e + 1) = r := by
      have := congrArg List.tail h
      simpa using this
    rw [whileF, te_cond h1]
    cases hc : ALN.contains c with
    | false => rw [List.takeWhile_cons, hc]; rfl
    | true =>
      have ih := te_loop (p := p) r (e + 1) m h2 (by simp at hm; omega)
      have e2 : ((e : Int) + 1) = ((e + 1 : Nat) : Int) := by omega
      simp only [exs_nil, exs_cons, ex_asg, ex_aug, ex_expr, ex_ret, ex_retN, ex_if, ex_while, ex_for, ex_brk, ex_cnt, ex_pass, ex_raise, ev_c, ev_v, ev_tup, ev_lst, ev_bin, ev_cmp, ev_cmp2, ev_and, ev_or, ev_not, ev_ite, ev_ix, ev_sl, ev_call, ev_bcall, ev_isi, ev_bm, evs_nil, evs_cons, evo_none, evo_some, tr_eq, asg_name, asg_tup, asg_sub, setAll_nil, setAll_cons, bind_ok, bind_exc, ofO_some, List.getElem?_cons_zero, List.getElem?_cons_succ, List.set_cons_zero, List.set_cons_succ, Option.map_some, ite_tt, ite_ff, if_T, if_F, add_int, sub_int, iadd_int, isub_int, lt_int, le_int, gt_int, ge_int, eq_int, ne_int, eq_str, ne_str, isin_chr, notin_chr, is_non, isnt_non, non_non, non_int, non_str, non_tup, non_bl, non_loc, tru_bl, tru_int, tru_non, len_str, len_tup, len_lst, int_int, tuple_tup, ty_int, ty_bl, ty_str, ty_tup, ty_non, opt_int, opt_none, Option.isSome_some, Bool.not_true, Bool.not_false, decide_true, decide_false, Bool.false_eq_true, e2]
      rw [ih, List.takeWhile_cons, hc]
      simp only [if_true, List.length_cons]
      rw [show e + 1 + (List.takeWhile ALN.contains r).length = e + ((List.takeWhile ALN.contains r).length + 1) by omega]
/-- what token_end gives at the rest of a text that begins at place p -/
def lexE (rest : List Nat) (p : Nat) : R Val := match rest with
  | [] => .bad
  | c :: r => if LET.contains c then (if 10 < (rest.takeWhile ALN.contains).length then .exc ⟨1, [.str [116, 111, 111, 32, 108, 111, 110, 103], .int p]⟩ [] else .ok (.d (.int (p + (rest.takeWhile ALN.contains).length : Nat))) [])
    else if rest.take 2 = [45, 62] ∨ rest.take 2 = [33, 61] then .ok (.d (.int (p + 2 : Nat))) []
    else if t_MARKS.any (fun y => eqv y (.str [c])) then .ok (.d (.int (p + 1 : Nat))) []
    else .exc ⟨1, [.str [117, 110, 107, 110, 111, 119, 110, 32, 115, 105, 103, 110], .int p]⟩ []
theorem drop_get {p c : Nat} {r : List Nat} (h : t.drop p = c :: r) : t[p]? = some c := by
  have := congrArg (fun l : List Nat => l[0]?) h
  simpa using this
theorem te_run {p : Nat} {rest : List Nat} (h : t.drop p = rest) (hne : rest ≠ []) (hl : rest.length < 1000000) : runF cf F_token_end [.d (.str t), .d (.int p)] [] = lexE rest p := by
  cases rest with
  | nil => exact absurd rfl hne
  | cons c r =>
    have h1 := drop_get h
    have hp : p < t.length := (List.getElem?_eq_some_iff.mp h1).1
    have hlp : wh cf teC teB [some (.d (.str t)), some (.d (.int p)), some (.d (.int p))] [] = _ := te_loop (cf := cf) (t := t) (st := []) (p := .d (.int p)) (c :: r) p fuel h hl
    have ht := index_str (st := []) (ixN_nat hp) h1
    simp only [runF, List.length_cons, List.length_nil, if_true, List.map_cons, List.map_nil, List.replicate, List.cons_append, List.nil_append, Nat.reduceAdd, Nat.reduceSub, F_token_end]
    cases hc : LET.contains c with
    | true =>
      have hc' : (s_SMALL ++ s_GREAT).contains c = true := hc
      have l1 : lexE (c :: r) p = if 10 < ((c :: r).takeWhile ALN.contains).length then .exc ⟨1, [.str [116, 111, 111, 32, 108, 111, 110, 103], .int p]⟩ [] else .ok (.d (.int (p + ((c :: r).takeWhile ALN.contains).length : Nat))) [] := by
        simp only [lexE, hc, if_T, if_F, Bool.false_eq_true]
      rw [l1]
      generalize hk : (List.takeWhile ALN.contains (c :: r)).length = k at hlp ⊢
      by_cases hk10 : 10 < k
      · have hh : (10 : Int) < (p + k : Nat) - (p : Int) := by omega
        rw [if_pos hk10]
        simp only [exs_nil, exs_cons, ex_asg, ex_aug, ex_expr, ex_ret, ex_retN, ex_if, ex_while, ex_for, ex_brk, ex_cnt, ex_pass, ex_raise, ev_c, ev_v, ev_tup, ev_lst, ev_bin, ev_cmp, ev_cmp2, ev_and, ev_or, ev_not, ev_ite, ev_ix, ev_sl, ev_call, ev_bcall, ev_isi, ev_bm, evs_nil, evs_cons, evo_none, evo_some, tr_eq, asg_name, asg_tup, asg_sub, setAll_nil, setAll_cons, bind_ok, bind_exc, ofO_some, List.getElem?_cons_zero, List.getElem?_cons_succ, List.set_cons_zero, List.set_cons_succ, Option.map_some, ite_tt, ite_ff, if_T, if_F, add_int, sub_int, iadd_int, isub_int, lt_int, le_int, gt_int, ge_int, eq_int, ne_int, eq_str, ne_str, isin_chr, notin_chr, is_non, isnt_non, non_non, non_int, non_str, non_tup, non_bl, non_loc, tru_bl, tru_int, tru_non, len_str, len_tup, len_lst, int_int, tuple_tup, ty_int, ty_bl, ty_str, ty_tup, ty_non, opt_int, opt_none, Option.isSome_some, Bool.not_true, Bool.not_false, decide_true, decide_false, Bool.false_eq_true, ht, add_str al1, hc', hlp, hh]
      · have hh : ¬ (10 : Int) < (p + k : Nat) - (p : Int) := by omega
        rw [if_neg hk10]
        simp only [exs_nil, exs_cons, ex_asg, ex_aug, ex_expr, ex_ret, ex_retN, ex_if, ex_while, ex_for, ex_brk, ex_cnt, ex_pass, ex_raise, ev_c, ev_v, ev_tup, ev_lst, ev_bin, ev_cmp, ev_cmp2, ev_and, ev_or, ev_not, ev_ite, ev_ix, ev_sl, ev_call, ev_bcall, ev_isi, ev_bm, evs_nil, evs_cons, evo_none, evo_some, tr_eq, asg_name, asg_tup, asg_sub, setAll_nil, setAll_cons, bind_ok, bind_exc, ofO_some, List.getElem?_cons_zero, List.getElem?_cons_succ, List.set_cons_zero, List.set_cons_succ, Option.map_some, ite_tt, ite_ff, if_T, if_F, add_int, sub_int, iadd_int, isub_int, lt_int, le_int, gt_int, ge_int, eq_int, ne_int, eq_str, ne_str, isin_chr, notin_chr, is_non, isnt_non, non_non, non_int, non_str, non_tup, non_bl, non_loc, tru_bl, tru_int, tru_non, len_str, len_tup, len_lst, int_int, tuple_tup, ty_int, ty_bl, ty_str, ty_tup, ty_non, opt_int, opt_none, Option.isSome_some, Bool.not_true, Bool.not_false, decide_true, decide_false, Bool.false_eq_true, ht, add_str al1, hc', hlp, hh]
    | false =>
      have hc' : (s_SMALL ++ s_GREAT).contains c = false := hc
      have hsl : slice (.d (.str t)) (some (.d (.int p))) (some (.d (.int (p + 2)))) [] = .ok (.d (.str ((c :: r).take 2))) [] := by
        have e2 : ((p : Int) + 2) = ((p + 2 : Nat) : Int) := by omega
        rw [slice_str opt_int opt_int, e2, cut_nat (by omega), h, show p + 2 - p = 2 by omega]
      have hin : ([.str [45, 62], .str [33, 61]] : List D).any (fun y => eqv y (.str ((c :: r).take 2))) = decide ((c :: r).take 2 = [45, 62] ∨ (c :: r).take 2 = [33, 61]) := by
        simp only [List.any_cons, List.any_nil, eqv, Bool.or_false]
        rw [Bool.eq_iff_iff]
        simp only [Bool.or_eq_true, beq_iff_eq, decide_eq_true_eq]
        constructor
        · rintro (h | h)
          · exact .inl h.symm
          · exact .inr h.symm
        · rintro (h | h)
          · exact .inl h.symm
          · exact .inr h.symm
      have l1 : lexE (c :: r) p = if (c :: r).take 2 = [45, 62] ∨ (c :: r).take 2 = [33, 61] then .ok (.d (.int (p + 2 : Nat))) []
          else if t_MARKS.any (fun y => eqv y (.str [c])) then .ok (.d (.int (p + 1 : Nat))) [] else .exc ⟨1, [.str [117, 110, 107, 110, 111, 119, 110, 32, 115, 105, 103, 110], .int p]⟩ [] := by
        simp only [lexE, hc, if_T, if_F, Bool.false_eq_true]
      rw [l1]
      by_cases h2 : (c :: r).take 2 = [45, 62] ∨ (c :: r).take 2 = [33, 61]
      · rw [if_pos h2]
        simp only [exs_nil, exs_cons, ex_asg, ex_aug, ex_expr, ex_ret, ex_retN, ex_if, ex_while, ex_for, ex_brk, ex_cnt, ex_pass, ex_raise, ev_c, ev_v, ev_tup, ev_lst, ev_bin, ev_cmp, ev_cmp2, ev_and, ev_or, ev_not, ev_ite, ev_ix, ev_sl, ev_call, ev_bcall, ev_isi, ev_bm, evs_nil, evs_cons, evo_none, evo_some, tr_eq, asg_name, asg_tup, asg_sub, setAll_nil, setAll_cons, bind_ok, bind_exc, ofO_some, List.getElem?_cons_zero, List.getElem?_cons_succ, List.set_cons_zero, List.set_cons_succ, Option.map_some, ite_tt, ite_ff, if_T, if_F, add_int, sub_int, iadd_int, isub_int, lt_int, le_int, gt_int, ge_int, eq_int, ne_int, eq_str, ne_str, isin_chr, notin_chr, is_non, isnt_non, non_non, non_int, non_str, non_tup, non_bl, non_loc, tru_bl, tru_int, tru_non, len_str, len_tup, len_lst, int_int, tuple_tup, ty_int, ty_bl, ty_str, ty_tup, ty_non, opt_int, opt_none, Option.isSome_some, Bool.not_true, Bool.not_false, decide_true, decide_false, Bool.false_eq_true, List.mapM_cons, List.mapM_nil, Val.data?, Option.pure_def, Option.bind_eq_bind, Option.bind_some, List.length_cons, List.length_nil, Nat.reduceAdd, datas, ht, add_str al1, hc', hsl, isin_tup (a := .str ((c :: r).take 2)) rfl, hin, h2, if_pos (show 2 ≤ big by decide)]
        rfl
      · rw [if_neg h2]
        cases h3 : t_MARKS.any fun y => eqv y (.str [c]) with
        | true =>
          simp only [exs_nil, exs_cons, ex_asg, ex_aug, ex_expr, ex_ret, ex_retN, ex_if, ex_while, ex_for, ex_brk, ex_cnt, ex_pass, ex_raise, ev_c, ev_v, ev_tup, ev_lst, ev_bin, ev_cmp, ev_cmp2, ev_and, ev_or, ev_not, ev_ite, ev_ix, ev_sl, ev_call, ev_bcall, ev_isi, ev_bm, evs_nil, evs_cons, evo_none, evo_some, tr_eq, asg_name, asg_tup, asg_sub, setAll_nil, setAll_cons, bind_ok, bind_exc, ofO_some, List.getElem?_cons_zero, List.getElem?_cons_succ, List.set_cons_zero, List.set_cons_succ, Option.map_some, ite_tt, ite_ff, if_T, if_F, add_int, sub_int, iadd_int, isub_int, lt_int, le_int, gt_int, ge_int, eq_int, ne_int, eq_str, ne_str, isin_chr, notin_chr, is_non, isnt_non, non_non, non_int, non_str, non_tup, non_bl, non_loc, tru_bl, tru_int, tru_non, len_str, len_tup, len_lst, int_int, tuple_tup, ty_int, ty_bl, ty_str, ty_tup, ty_non, opt_int, opt_none, Option.isSome_some, Bool.not_true, Bool.not_false, decide_true, decide_false, Bool.false_eq_true, List.mapM_cons, List.mapM_nil, Val.data?, Option.pure_def, Option.bind_eq_bind, Option.bind_some, List.length_cons, List.length_nil, Nat.reduceAdd, datas, ht, add_str al1, hc', hsl, isin_tup (a := .str ((c :: r).take 2)) rfl, hin, h2, if_pos (show 2 ≤ big by decide), notin_tup (a := .str [c]) rfl, h3]
          rfl
        | false =>
          simp only [exs_nil, exs_cons, ex_asg, ex_aug, ex_expr, ex_ret, ex_retN, ex_if, ex_while, ex_for, ex_brk, ex_cnt, ex_pass, ex_raise, ev_c, ev_v, ev_tup, ev_lst, ev_bin, ev_cmp, ev_cmp2, ev_and, ev_or, ev_not, ev_ite, ev_ix, ev_sl, ev_call, ev_bcall, ev_isi, ev_bm, evs_nil, evs_cons, evo_none, evo_some, tr_eq, asg_name, asg_tup, asg_sub, setAll_nil, setAll_cons, bind_ok, bind_exc, ofO_some, List.getElem?_cons_zero, List.getElem?_cons_succ, List.set_cons_zero, List.set_cons_succ, Option.map_some, ite_tt, ite_ff, if_T, if_F, add_int, sub_int, iadd_int, isub_int, lt_int, le_int, gt_int, ge_int, eq_int, ne_int, eq_str, ne_str, isin_chr, notin_chr, is_non, isnt_non, non_non, non_int, non_str, non_tup, non_bl, non_loc, tru_bl, tru_int, tru_non, len_str, len_tup, len_lst, int_int, tuple_tup, ty_int, ty_bl, ty_str, ty_tup, ty_non, opt_int, opt_none, Option.isSome_some, Bool.not_true, Bool.not_false, decide_true, decide_false, Bool.false_eq_true, List.mapM_cons, List.mapM_nil, Val.data?, Option.pure_def, Option.bind_eq_bind, Option.bind_some, List.length_cons, List.length_nil, Nat.reduceAdd, datas, ht, add_str al1, hc', hsl, isin_tup (a := .str ((c :: r).take 2)) rfl, hin, h2, if_pos (show 2 ≤ big by decide), notin_tup (a := .str [c]) rfl, h3]
end
end PX
/-! M00b: tokens_of, walked. -/
namespace PX
open PI

/-- the token that a text begins with: its length, or what is wrong -/
def lexK (rest : List Nat) : Sum Nat (List Nat) := match rest with
  | [] => .inr []
  | c :: r => if LET.contains c then (if 10 < (rest.takeWhile ALN.contains).length then .inr [116, 111, 111, 32, 108, 111, 110, 103] else .inl (rest.takeWhile ALN.contains).length)
    else if rest.take 2 = [45, 62] ∨ rest.take 2 = [33, 61] then .inl 2
    else if t_MARKS.any (fun y => eqv y (.str [c])) then .inl 1
    else .inr [117, 110, 107, 110, 111, 119, 110, 32, 115, 105, 103, 110]
theorem lexE_inl {rest : List Nat} {p k : Nat} (hne : rest ≠ []) (h : lexK rest = .inl k) : lexE rest p = .ok (.d (.int (p + k : Nat))) [] := by
  cases rest with
  | nil => exact absurd rfl hne
  | cons c r =>
    simp only [lexK] at h
    simp only [lexE]
    split at h
    · split at h
      · cases h
      · rename_i h1 h2
        cases h
        rw [if_pos h1, if_neg h2]
    · rename_i h1
      rw [if_neg h1]
      split at h
      · rename_i h2
        cases h
        rw [if_pos h2]
      · rename_i h2
        rw [if_neg h2]
        split at h
        · rename_i h3
          cases h
          rw [if_pos h3]
        · cases h
theorem lexE_inr {rest : List Nat} {p : Nat} {why : List Nat} (hne : rest ≠ []) (h : lexK rest = .inr why) : lexE rest p = .exc ⟨1, [.str why, .int p]⟩ [] := by
  cases rest with
  | nil => exact absurd rfl hne
  | cons c r =>
    simp only [lexK] at h
    simp only [lexE]
    split at h
    · split at h
      · rename_i h1 h2
        cases h
        rw [if_pos h1, if_pos h2]
      · cases h
    · rename_i h1
      rw [if_neg h1]
      split at h
      · cases h
      · rename_i h2
        rw [if_neg h2]
        split at h
        · cases h
        · rename_i h3
          cases h
          rw [if_neg h3]
inductive LR where
  | ok (ds : List D) | ex (x : Exn)
inductive Tk : List Nat → Nat → List D → LR → Prop where
  | nil {p : Nat} {ds : List D} : Tk [] p ds (.ok ds)
  | blank {c p : Nat} {r : List Nat} {ds : List D} {res : LR} : c = 32 ∨ c = 10 → Tk r (p + 1) ds res → Tk (c :: r) p ds res
  | com {p : Nat} {r : List Nat} {ds : List D} {res : LR} : Tk ((35 :: r).dropWhile (· != 10)) (p + ((35 :: r).takeWhile (· != 10)).length) ds res → Tk (35 :: r) p ds res
  | tok {c p k : Nat} {r : List Nat} {ds : List D} {res : LR} : ¬ (c = 32 ∨ c = 10) → c ≠ 35 → lexK (c :: r) = .inl k → 0 < k → Tk ((c :: r).drop k) (p + k) (ds ++ [.tup [.str ((c :: r).take k), .int p]]) res → Tk (c :: r) p ds res
  | bad {c p : Nat} {r why : List Nat} {ds : List D} : ¬ (c = 32 ∨ c = 10) → c ≠ 35 → lexK (c :: r) = .inr why → Tk (c :: r) p ds (.ex ⟨1, [.str why, .int p]⟩)

abbrev tokC : E := .cmp .lt (.v 2) (.bcall .len [.v 0])
abbrev comC : E := .and (.cmp .lt (.v 2) (.bcall .len [.v 0])) (.cmp .ne (.ix (.v 0) (.v 2)) (.c (.str [10])))
abbrev incB : List S := [.aug 2 .add (.c (.int 1))]
abbrev tokB : List S := [.if_ (.cmp .isin (.ix (.v 0) (.v 2)) (.c (.str [32, 10]))) incB [.if_ (.cmp .eq (.ix (.v 0) (.v 2)) (.c (.str [35]))) [.while_ comC incB]
  [.asg (.name 3) (.call 0 [.v 0, .v 2]), .expr (.bm .append (.v 1) [.tup [.sl (.v 0) (some (.v 2)) (some (.v 3)), .v 2]]), .asg (.name 2) (.v 3)]]]
theorem F_tok : F_tokens_of = ⟨1, 4, [.asg (.name 1) (.lst []), .asg (.name 2) (.c (.int 0)), .while_ tokC tokB, .ret (.v 1)]⟩ := rfl
section
variable {P : List Fn} {N : Nat} {t : List Nat} {st : Store}
theorem com_loop {cf : CF} {f : Val} {e3 : Option Val} : ∀ (r : List Nat) (e m : Nat), t.drop e = r → r.length < m →
    whileF (tr cf comC) (exs cf incB) m [some (.d (.str t)), some f, some (.d (.int e)), e3] st = .ok (.nx [some (.d (.str t)), some f, some (.d (.int (e + (r.takeWhile (· != 10)).length : Nat))), e3]) st
  | [], e, m + 1, h, hm => by
    have : t.length ≤ e := List.drop_eq_nil_iff.mp h
    have h1 : ¬ (e : Int) < (t.length : Int) := by omega
    rw [whileF]
    simp only [exs_nil, exs_cons, ex_asg, ex_aug, ex_expr, ex_ret, ex_retN, ex_if, ex_while, ex_for, ex_brk, ex_cnt, ex_pass, ex_raise, ev_c, ev_v, ev_tup, ev_lst, ev_bin, ev_cmp, ev_cmp2, ev_and, ev_or, ev_not, ev_ite, ev_ix, ev_sl, ev_call, ev_bcall, ev_isi, ev_bm, evs_nil, evs_cons, evo_none, evo_some, tr_eq, asg_name, asg_tup, asg_sub, setAll_nil, setAll_cons, bind_ok, bind_exc, ofO_some, List.getElem?_cons_zero, List.getElem?_cons_succ, List.set_cons_zero, List.set_cons_succ, Option.map_some, ite_tt, ite_ff, if_T, if_F, add_int, sub_int, iadd_int, isub_int, lt_int, le_int, gt_int, ge_int, eq_int, ne_int, eq_str, ne_str, isin_chr, notin_chr, is_non, isnt_non, non_non, non_int, non_str, non_tup, non_bl, non_loc, tru_bl, tru_int, tru_non, len_str, len_tup, len_lst, int_int, tuple_tup, ty_int, ty_bl, ty_str, ty_tup, ty_non, opt_int, opt_none, Option.isSome_some, Bool.not_true, Bool.not_false, decide_true, decide_false, Bool.false_eq_true, h1, List.takeWhile_nil, List.length_nil, Nat.add_zero]
  | c :: r, e, m + 1, h, hm => by
    have h1 := drop_get h
    have hp : e < t.length := (List.getElem?_eq_some_iff.mp h1).1
    have h3 : (e : Int) < (t.length : Int) := by omega
    have h2 : t.drop (e + 1) = r := by
      have := congrArg List.tail h
      simpa using this
    rw [whileF]
    by_cases hc : c = 10
    · have hd : ([c] : List Nat) = [10] := by rw [hc]
      have e4 : (c :: r).takeWhile (· != 10) = [] := by rw [List.takeWhile_cons, hc]; rfl
      simp only [exs_nil, exs_cons, ex_asg, ex_aug, ex_expr, ex_ret, ex_retN, ex_if, ex_while, ex_for, ex_brk, ex_cnt, ex_pass, ex_raise, ev_c, ev_v, ev_tup, ev_lst, ev_bin, ev_cmp, ev_cmp2, ev_and, ev_or, ev_not, ev_ite, ev_ix, ev_sl, ev_call, ev_bcall, ev_isi, ev_bm, evs_nil, evs_cons, evo_none, evo_some, tr_eq, asg_name, asg_tup, asg_sub, setAll_nil, setAll_cons, bind_ok, bind_exc, ofO_some, List.getElem?_cons_zero, List.getElem?_cons_succ, List.set_cons_zero, List.set_cons_succ, Option.map_some, ite_tt, ite_ff, if_T, if_F, add_int, sub_int, iadd_int, isub_int, lt_int, le_int, gt_int, ge_int, eq_int, ne_int, eq_str, ne_str, isin_chr, notin_chr, is_non, isnt_non, non_non, non_int, non_str, non_tup, non_bl, non_loc, tru_bl, tru_int, tru_non, len_str, len_tup, len_lst, int_int, tuple_tup, ty_int, ty_bl, ty_str, ty_tup, ty_non, opt_int, opt_none, Option.isSome_some, Bool.not_true, Bool.not_false, decide_true, decide_false, Bool.false_eq_true, h3, index_str (ixN_nat hp) h1, hd, e4, List.length_nil, Nat.add_zero]
    · have hd : ¬ ([c] : List Nat) = [10] := by simpa using hc
      have ih := com_loop (cf := cf) (f := f) (e3 := e3) r (e + 1) m h2 (by simp at hm; omega)
      have e2 : ((e : Int) + 1) = ((e + 1 : Nat) : Int) := by omega
      have e4 : (c :: r).takeWhile (· != 10) = c :: r.takeWhile (· != 10) := by
        rw [List.takeWhile_cons]; simp [hc]
      simp only [exs_nil, exs_cons, ex_asg, ex_aug, ex_expr, ex_ret, ex_retN, ex_if, ex_while, ex_for, ex_brk, ex_cnt, ex_pass, ex_raise, ev_c, ev_v, ev_tup, ev_lst, ev_bin, ev_cmp, ev_cmp2, ev_and, ev_or, ev_not, ev_ite, ev_ix, ev_sl, ev_call, ev_bcall, ev_isi, ev_bm, evs_nil, evs_cons, evo_none, evo_some, tr_eq, asg_name, asg_tup, asg_sub, setAll_nil, setAll_cons, bind_ok, bind_exc, ofO_some, List.getElem?_cons_zero, List.getElem?_cons_succ, List.set_cons_zero, List.set_cons_succ, Option.map_some, ite_tt, ite_ff, if_T, if_F, add_int, sub_int, iadd_int, isub_int, lt_int, le_int, gt_int, ge_int, eq_int, ne_int, eq_str, ne_str, isin_chr, notin_chr, is_non, isnt_non, non_non, non_int, non_str, non_tup, non_bl, non_loc, tru_bl, tru_int, tru_non, len_str, len_tup, len_lst, int_int, tuple_tup, ty_int, ty_bl, ty_str, ty_tup, ty_non, opt_int, opt_none, Option.isSome_some, Bool.not_true, Bool.not_false, decide_true, decide_false, Bool.false_eq_true, h3, index_str (ixN_nat hp) h1, hd, e2]
      rw [ih, e4, List.length_cons, show e + 1 + (List.takeWhile (· != 10) r).length = e + ((List.takeWhile (· != 10) r).length + 1) by omega]
theorem drop_tw {α : Type} {f : α → Bool} : ∀ l : List α, l.drop (l.takeWhile f).length = l.dropWhile f
  | [] => rfl
  | x :: l => by
    rw [List.takeWhile_cons, List.dropWhile_cons]
    cases f x with
    | true => simpa using drop_tw l
    | false => rfl
/-- what token_end answers, as a call -/
theorem te_call (hP : Has P) {p : Nat} {rest : List Nat} {st : Store} (h : t.drop p = rest) (hne : rest ≠ []) (hl : rest.length < 1000000) : callN P (N + 1) 0 [.d (.str t), .d (.int p)] st = match lexK rest with
    | .inl k => .ok (.d (.int (p + k : Nat))) st
    | .inr why => .exc ⟨1, [.str why, .int p]⟩ st := by
  have hr := te_run (cf := callN P N) h hne hl
  cases e : lexK rest with
  | inl k =>
    rw [lexE_inl hne e] at hr
    exact callN_d (ds := [.str t, .int p]) hP.token_end hr
  | inr why =>
    rw [lexE_inr hne e] at hr
    exact callN_x (ds := [.str t, .int p]) hP.token_end hr
/-- what the loop of tokens_of gives -/
def TokEnd (P : List Fn) (N : Nat) (t : List Nat) (p : Nat) (ds : List D) (res : LR) : Prop := ∀ (e3 : Option Val) (m : Nat), t.length - p < m → ds.length + (t.length - p) < 1000000 → match res with
  | .ok ds' => ∃ env', whileF (tr (callN P (N + 1)) tokC) (exs (callN P (N + 1)) tokB) m [some (.d (.str t)), some (.loc 0), some (.d (.int p)), e3] [.lst ds] = .ok (.nx env') [.lst ds'] ∧ env'[1]? = some (some (.loc 0))
  | .ex x => ∃ st', whileF (tr (callN P (N + 1)) tokC) (exs (callN P (N + 1)) tokB) m [some (.d (.str t)), some (.loc 0), some (.d (.int p)), e3] [.lst ds] = .exc x st'
theorem tok_loop (hP : Has P) (ht : t.length < 1000000) {rest : List Nat} {p : Nat} {ds : List D} {res : LR} (k : Tk rest p ds res) : p ≤ t.length → t.drop p = rest → TokEnd P N t p ds res := by
  induction k with
  | nil =>
    rename_i p ds
    intro hp h e3 m hm hd
    have : t.length ≤ p := List.drop_eq_nil_iff.mp h
    have h1 : ¬ (p : Int) < (t.length : Int) := by omega
    cases m with
    | zero => omega
    | succ m =>
      refine ⟨[some (.d (.str t)), some (.loc 0), some (.d (.int p)), e3], ?_, rfl⟩
      rw [whileF]
      simp only [exs_nil, exs_cons, ex_asg, ex_aug, ex_expr, ex_ret, ex_retN, ex_if, ex_while, ex_for, ex_brk, ex_cnt, ex_pass, ex_raise, ev_c, ev_v, ev_tup, ev_lst, ev_bin, ev_cmp, ev_cmp2, ev_and, ev_or, ev_not, ev_ite, ev_ix, ev_sl, ev_call, ev_bcall, ev_isi, ev_bm, evs_nil, evs_cons, evo_none, evo_some, tr_eq, asg_name, asg_tup, asg_sub, setAll_nil, setAll_cons, bind_ok, bind_exc, ofO_some, List.getElem?_cons_zero, List.getElem?_cons_succ, List.set_cons_zero, List.set_cons_succ, Option.map_some, ite_tt, ite_ff, if_T, if_F, add_int, sub_int, iadd_int, isub_int, lt_int, le_int, gt_int, ge_int, eq_int, ne_int, eq_str, ne_str, isin_chr, notin_chr, is_non, isnt_non, non_non, non_int, non_str, non_tup, non_bl, non_loc, tru_bl, tru_int, tru_non, len_str, len_tup, len_lst, int_int, tuple_tup, ty_int, ty_bl, ty_str, ty_tup, ty_non, opt_int, opt_none, Option.isSome_some, Bool.not_true, Bool.not_false, decide_true, decide_false, Bool.false_eq_true, h1]
  | blank hc _ ih =>
    rename_i c p r ds res k
    intro hp h e3 m hm hd
    have h1 := drop_get h
    have hp : p < t.length := (List.getElem?_eq_some_iff.mp h1).1
    have h3 : (p : Int) < (t.length : Int) := by omega
    have h2 : t.drop (p + 1) = r := by
      have := congrArg List.tail h
      simpa using this
    have e2 : ((p : Int) + 1) = ((p + 1 : Nat) : Int) := by omega
    have hb : ([32, 10] : List Nat).contains c = true := by rcases hc with rfl | rfl <;> rfl
    cases m with
    | zero => omega
    | succ m =>
      have := ih (by omega) h2 e3 m (by omega) (by omega)
      rw [whileF]
      simp only [exs_nil, exs_cons, ex_asg, ex_aug, ex_expr, ex_ret, ex_retN, ex_if, ex_while, ex_for, ex_brk, ex_cnt, ex_pass, ex_raise, ev_c, ev_v, ev_tup, ev_lst, ev_bin, ev_cmp, ev_cmp2, ev_and, ev_or, ev_not, ev_ite, ev_ix, ev_sl, ev_call, ev_bcall, ev_isi, ev_bm, evs_nil, evs_cons, evo_none, evo_some, tr_eq, asg_name, asg_tup, asg_sub, setAll_nil, setAll_cons, bind_ok, bind_exc, ofO_some, List.getElem?_cons_zero, List.getElem?_cons_succ, List.set_cons_zero, List.set_cons_succ, Option.map_some, ite_tt, ite_ff, if_T, if_F, add_int, sub_int, iadd_int, isub_int, lt_int, le_int, gt_int, ge_int, eq_int, ne_int, eq_str, ne_str, isin_chr, notin_chr, is_non, isnt_non, non_non, non_int, non_str, non_tup, non_bl, non_loc, tru_bl, tru_int, tru_non, len_str, len_tup, len_lst, int_int, tuple_tup, ty_int, ty_bl, ty_str, ty_tup, ty_non, opt_int, opt_none, Option.isSome_some, Bool.not_true, Bool.not_false, decide_true, decide_false, Bool.false_eq_true, h3, index_str (ixN_nat hp) h1, hb, e2]
      exact this
  | com _ ih =>
    rename_i p r ds res k
    intro hp h e3 m hm hd
    have h1 := drop_get h
    have hp : p < t.length := (List.getElem?_eq_some_iff.mp h1).1
    have h3 : (p : Int) < (t.length : Int) := by omega
    have hl : (35 :: r).length = t.length - p := by rw [← h, List.length_drop]
    have hk1 : 0 < ((35 :: r).takeWhile (· != 10)).length := by rw [List.takeWhile_cons]; simp
    have hk2 : ((35 :: r).takeWhile (· != 10)).length ≤ (35 :: r).length := (List.takeWhile_sublist _).length_le
    have hlp : wh (callN P (N + 1)) comC incB [some (.d (.str t)), some (.loc 0), some (.d (.int p)), e3] [.lst ds] = _ := com_loop (f := .loc 0) (e3 := e3) (35 :: r) p fuel h (by rw [hl]; have : fuel = 1000000 := rfl; omega)
    have h2 : t.drop (p + ((35 :: r).takeWhile (· != 10)).length) = (35 :: r).dropWhile (· != 10) := by
      rw [← List.drop_drop, h]
      exact drop_tw _
    generalize hk : ((35 :: r).takeWhile (· != 10)).length = kk at *
    have hb : ([32, 10] : List Nat).contains 35 = false := rfl
    cases m with
    | zero => omega
    | succ m =>
      have := ih (by omega) h2 e3 m (by omega) (by omega)
      rw [whileF]
      simp only [exs_nil, exs_cons, ex_asg, ex_aug, ex_expr, ex_ret, ex_retN, ex_if, ex_while, ex_for, ex_brk, ex_cnt, ex_pass, ex_raise, ev_c, ev_v, ev_tup, ev_lst, ev_bin, ev_cmp, ev_cmp2, ev_and, ev_or, ev_not, ev_ite, ev_ix, ev_sl, ev_call, ev_bcall, ev_isi, ev_bm, evs_nil, evs_cons, evo_none, evo_some, tr_eq, asg_name, asg_tup, asg_sub, setAll_nil, setAll_cons, bind_ok, bind_exc, ofO_some, List.getElem?_cons_zero, List.getElem?_cons_succ, List.set_cons_zero, List.set_cons_succ, Option.map_some, ite_tt, ite_ff, if_T, if_F, add_int, sub_int, iadd_int, isub_int, lt_int, le_int, gt_int, ge_int, eq_int, ne_int, eq_str, ne_str, isin_chr, notin_chr, is_non, isnt_non, non_non, non_int, non_str, non_tup, non_bl, non_loc, tru_bl, tru_int, tru_non, len_str, len_tup, len_lst, int_int, tuple_tup, ty_int, ty_bl, ty_str, ty_tup, ty_non, opt_int, opt_none, Option.isSome_some, Bool.not_true, Bool.not_false, decide_true, decide_false, Bool.false_eq_true, h3, index_str (ixN_nat hp) h1, hb, hlp]
      exact this
  | tok hc hc2 hl hk _ ih =>
    rename_i c p kk r ds res k
    intro hp h e3 m hm hd
    have h1 := drop_get h
    have hp : p < t.length := (List.getElem?_eq_some_iff.mp h1).1
    have h3 : (p : Int) < (t.length : Int) := by omega
    have hlen : (c :: r).length = t.length - p := by rw [← h, List.length_drop]
    have hkk : kk ≤ (c :: r).length := by
      simp only [lexK] at hl
      split at hl
      · split at hl
        · cases hl
        · cases hl
          exact (List.takeWhile_sublist _).length_le
      · split at hl
        · rename_i h2
          cases hl
          rcases h2 with h2 | h2
          · have := congrArg List.length h2
            simp only [List.length_take, List.length_cons, List.length_nil] at this ⊢
            omega
          · have := congrArg List.length h2
            simp only [List.length_take, List.length_cons, List.length_nil] at this ⊢
            omega
        · split at hl
          · cases hl
            simp
          · cases hl
    have hcall := te_call hP (N := N) (st := [.lst ds]) h (by simp) (by omega)
    rw [hl] at hcall
    simp only at hcall
    have hb : ([32, 10] : List Nat).contains c = false := by
      simp only [not_or] at hc
      simp [hc.1, hc.2]
    have hb2 : ¬ ([c] : List Nat) = [35] := by simpa using hc2
    have hsl : slice (.d (.str t)) (some (.d (.int p))) (some (.d (.int (p + kk : Nat)))) [.lst ds] = .ok (.d (.str ((c :: r).take kk))) [.lst ds] := by
      rw [slice_str opt_int opt_int, cut_nat (by omega), h, show p + kk - p = kk by omega]
    have hap : bmeth .append (.loc 0) [.d (.tup [.str ((c :: r).take kk), .int p])] [.lst ds] = .ok (.d .non) [.lst (ds ++ [.tup [.str ((c :: r).take kk), .int p]])] := app_data (l := 0) rfl (by have : big = 16777216 := rfl; omega)
    have h2 : t.drop (p + kk) = (c :: r).drop kk := by rw [← List.drop_drop, h]
    cases m with
    | zero => omega
    | succ m =>
      have := ih (by omega) h2 (some (.d (.int (p + kk : Nat)))) m (by omega) (by rw [List.length_append, List.length_cons, List.length_nil]; omega)
      rw [whileF]
      simp only [exs_nil, exs_cons, ex_asg, ex_aug, ex_expr, ex_ret, ex_retN, ex_if, ex_while, ex_for, ex_brk, ex_cnt, ex_pass, ex_raise, ev_c, ev_v, ev_tup, ev_lst, ev_bin, ev_cmp, ev_cmp2, ev_and, ev_or, ev_not, ev_ite, ev_ix, ev_sl, ev_call, ev_bcall, ev_isi, ev_bm, evs_nil, evs_cons, evo_none, evo_some, tr_eq, asg_name, asg_tup, asg_sub, setAll_nil, setAll_cons, bind_ok, bind_exc, ofO_some, List.getElem?_cons_zero, List.getElem?_cons_succ, List.set_cons_zero, List.set_cons_succ, Option.map_some, ite_tt, ite_ff, if_T, if_F, add_int, sub_int, iadd_int, isub_int, lt_int, le_int, gt_int, ge_int, eq_int, ne_int, eq_str, ne_str, isin_chr, notin_chr, is_non, isnt_non, non_non, non_int, non_str, non_tup, non_bl, non_loc, tru_bl, tru_int, tru_non, len_str, len_tup, len_lst, int_int, tuple_tup, ty_int, ty_bl, ty_str, ty_tup, ty_non, opt_int, opt_none, Option.isSome_some, Bool.not_true, Bool.not_false, decide_true, decide_false, Bool.false_eq_true, List.mapM_cons, List.mapM_nil, Val.data?, Option.pure_def, Option.bind_eq_bind, Option.bind_some, List.length_cons, List.length_nil, Nat.reduceAdd, datas, h3, index_str (ixN_nat hp) h1, hb, hb2, hcall, recv_loc (st := [.lst ds]) (l := 0) rfl, hsl, hap, if_pos (show 2 ≤ big by decide)]
      exact this
  | bad hc hc2 hl =>
    rename_i c p r why ds
    intro hp h e3 m hm hd
    have h1 := drop_get h
    have hp : p < t.length := (List.getElem?_eq_some_iff.mp h1).1
    have h3 : (p : Int) < (t.length : Int) := by omega
    have hlen : (c :: r).length = t.length - p := by rw [← h, List.length_drop]
    have hcall := te_call hP (N := N) (st := [.lst ds]) h (by simp) (by omega)
    rw [hl] at hcall
    simp only at hcall
    have hb : ([32, 10] : List Nat).contains c = false := by
      simp only [not_or] at hc
      simp [hc.1, hc.2]
    have hb2 : ¬ ([c] : List Nat) = [35] := by simpa using hc2
    cases m with
    | zero => omega
    | succ m =>
      refine ⟨[.lst ds], ?_⟩
      rw [whileF]
      simp only [exs_nil, exs_cons, ex_asg, ex_aug, ex_expr, ex_ret, ex_retN, ex_if, ex_while, ex_for, ex_brk, ex_cnt, ex_pass, ex_raise, ev_c, ev_v, ev_tup, ev_lst, ev_bin, ev_cmp, ev_cmp2, ev_and, ev_or, ev_not, ev_ite, ev_ix, ev_sl, ev_call, ev_bcall, ev_isi, ev_bm, evs_nil, evs_cons, evo_none, evo_some, tr_eq, asg_name, asg_tup, asg_sub, setAll_nil, setAll_cons, bind_ok, bind_exc, ofO_some, List.getElem?_cons_zero, List.getElem?_cons_succ, List.set_cons_zero, List.set_cons_succ, Option.map_some, ite_tt, ite_ff, if_T, if_F, add_int, sub_int, iadd_int, isub_int, lt_int, le_int, gt_int, ge_int, eq_int, ne_int, eq_str, ne_str, isin_chr, notin_chr, is_non, isnt_non, non_non, non_int, non_str, non_tup, non_bl, non_loc, tru_bl, tru_int, tru_non, len_str, len_tup, len_lst, int_int, tuple_tup, ty_int, ty_bl, ty_str, ty_tup, ty_non, opt_int, opt_none, Option.isSome_some, Bool.not_true, Bool.not_false, decide_true, decide_false, Bool.false_eq_true, h3, index_str (ixN_nat hp) h1, hb, hb2, hcall]
end
end PX
/-! PRE: loops by invariants; the laws' own first words: box, digits, draw, same. -/
namespace PX
open PI

/-! ### loops -/
theorem forD_inv {g : Val → Env → Store → R Env} {b : Env → Store → R Fl} (I : Nat → Env → Store → Prop) : ∀ (xs : List Val) (j : Nat) (env : Env) (st : Store), I j env st →
    (∀ i x env st, xs[i]? = some x → I (j + i) env st → ∃ env1 st1 env2 st2, g x env st = .ok env1 st1 ∧ (b env1 st1 = .ok (.nx env2) st2 ∨ b env1 st1 = .ok (.ct env2) st2) ∧ I (j + i + 1) env2 st2) →
    ∃ env' st', forD g b xs env st = .ok (.nx env') st' ∧ I (j + xs.length) env' st'
  | [], j, env, st, h0, _ => ⟨env, st, rfl, h0⟩
  | x :: xs, j, env, st, h0, step => by
    obtain ⟨env1, st1, env2, st2, h1, h2, h3⟩ := step 0 x env st rfl h0
    obtain ⟨env', st', h4, h5⟩ := forD_inv I xs (j + 1) env2 st2 (by simpa using h3) fun i y env st hy hi => by
      have e : j + (i + 1) = j + 1 + i := by omega
      have := step (i + 1) y env st (by simpa using hy) (by rw [e]; exact hi)
      rw [e] at this
      exact this
    refine ⟨env', st', ?_, by rw [List.length_cons]; rw [show j + (xs.length + 1) = j + 1 + xs.length by omega]; exact h5⟩
    rw [forD, h1, bind_ok]
    rcases h2 with h2 | h2
    · rw [h2, bind_ok]; exact h4
    · rw [h2, bind_ok]; exact h4
theorem rngOk_nat {n : Nat} (h : n < 1000000000) : rngOk (n : Int) = true := by
  unfold rngOk
  have h1 : -(2 ^ 62 : Int) ≤ (n : Int) := by omega
  have h2 : (n : Int) < 2 ^ 62 := by omega
  rw [decide_eq_true h1, decide_eq_true h2]
  rfl
section
variable {cf : CF} {t : PI.T} {b : List S} {env : Env} {st st1 : Store} {e e2 : E}
theorem evIt_r1 {n : Nat} (h : ev cf e env st = .ok (.d (.int n)) st1) (hn : rngOk (n : Int) = true) : evIt cf (.r1 e) env st = .ok (.d (rangeL 0 n)) st1 := by
  have e1 : evs cf [e] env st = .ok [.d (.int n)] st1 := by
    rw [evs_cons, h, bind_ok, evs_nil]; rfl
  show (evs cf [e] env st).bind _ = _
  rw [e1, bind_ok]
  show (if rngOk (n : Int) = true then R.ok (Ity.d (rangeL 0 (n : Int).toNat)) st1 else R.bad) = _
  rw [if_pos hn, Int.toNat_natCast]
theorem evIt_r2 {st2 : Store} {m n : Nat} (h : ev cf e env st = .ok (.d (.int m)) st1) (h2 : ev cf e2 env st1 = .ok (.d (.int n)) st2) (hm : rngOk (m : Int) = true) (hn : rngOk (n : Int) = true) : evIt cf (.r2 e e2) env st = .ok (.d (rangeL m (n - m))) st2 := by
  have e1 : evs cf [e, e2] env st = .ok [.d (.int m), .d (.int n)] st2 := by
    rw [evs_cons, h, bind_ok, evs_cons, h2, bind_ok, evs_nil]; rfl
  show (evs cf [e, e2] env st).bind _ = _
  rw [e1, bind_ok]
  show (if (rngOk (m : Int) && rngOk (n : Int)) = true then R.ok (Ity.d (rangeL m ((n : Int) - (m : Int)).toNat)) st2 else R.bad) = _
  rw [if_pos (by rw [hm, hn]; rfl), show ((n : Int) - (m : Int)).toNat = n - m by omega]
theorem evIt_r2z {st2 : Store} {n : Nat} (h : ev cf e env st = .ok (.d (.int 0)) st1) (h2 : ev cf e2 env st1 = .ok (.d (.int n)) st2) (hn : rngOk (n : Int) = true) : evIt cf (.r2 e e2) env st = .ok (.d (rangeL 0 n)) st2 := by
  have := evIt_r2 (m := 0) (n := n) h h2 (rngOk_nat (by decide)) hn
  rw [Nat.sub_zero] at this
  exact this
theorem evIt_r1l {i : Int} (n : Nat) (hi : i = (n : Int)) (h : ev cf e env st = .ok (.d (.int i)) st1) (hn : rngOk (n : Int) = true) : evIt cf (.r1 e) env st = .ok (.d (rangeL 0 n)) st1 := by
  subst hi
  exact evIt_r1 h hn
theorem fo_d {it : PI.It} {xs : List Val} (h : evIt cf it env st = .ok (.d xs) st1) : fo cf t it b env st = forD (asg cf t) (exs cf b) xs env st1 := by
  unfold fo forI
  rw [h]
  rfl
theorem range_get {lo : Int} {n i : Nat} {x : Val} (h : (rangeL lo n)[i]? = some x) : i < n ∧ x = .d (.int (lo + i)) := by
  unfold rangeL at h
  rw [List.getElem?_map] at h
  cases e : (List.range n)[i]? with
  | none => rw [e] at h; cases h
  | some k =>
    rw [e] at h
    obtain ⟨h1, h2⟩ := List.getElem?_eq_some_iff.mp e
    simp at h1 h2
    subst h2
    exact ⟨h1, (Option.some.inj h).symm⟩
theorem range_len {lo : Int} {n : Nat} : (rangeL lo n).length = n := by simp [rangeL]
end

/-! ### the box, the draws -/
theorem reach2 {st : Store} {b g : Nat} {a : D} {ds : List D} (hb : st[b]? = some (.lstV [.loc g, .d a])) (hg : st[g]? = some (.lst ds)) (hne : b ≠ g) : reach st 1000 [b] [] = [b, g] := by
  have h1 : ([] : List Nat).contains b = false := rfl
  have h2 : ([b] : List Nat).contains g = false := by simp; exact fun h => hne h.symm
  rw [show (1000 : Nat) = 999 + 1 from rfl, reach]
  simp only [h1, Bool.false_eq_true, if_false, hb, Obj.locs, List.flatMap_cons, List.flatMap_nil, Val.locs, List.append_nil, List.nil_append, List.singleton_append, List.cons_append]
  rw [show (999 : Nat) = 998 + 1 from rfl, reach]
  simp only [h2, Bool.false_eq_true, if_false, hg, Obj.locs, List.nil_append, List.cons_append]
  rfl
/-- a call with the box, and data: nothing new is made, the box's place counted on -/
theorem framed_box {g : List Val → Store → R Val} {st : Store} {b dg : Nat} {a a2 : D} {ds : List D} {xs : List D} {r : D} (hb : st[b]? = some (.lstV [.loc dg, .d a])) (hg : st[dg]? = some (.lst ds)) (hne : b ≠ dg)
    (h : g (.loc 0 :: xs.map .d) [.lstV [.loc 1, .d a], .lst ds] = .ok (.d r) [.lstV [.loc 1, .d a2], .lst ds]) : framed g (.loc b :: xs.map .d) st = .ok (.d r) (st.set b (.lstV [.loc dg, .d a2])) := by
  have hlt : b < st.length := (List.getElem?_eq_some_iff.mp hb).1
  have hlt2 : dg < st.length := (List.getElem?_eq_some_iff.mp hg).1
  have e1 : ((Val.loc b :: xs.map Val.d).flatMap Val.locs) = [b] := by
    rw [List.flatMap_cons, locs_ds]; rfl
  have r1 : renN [b, dg] b = some 0 := by unfold renN; simp [List.findIdx?_cons]
  have r2 : renN [b, dg] dg = some 1 := by
    have : (b == dg) = false := by simpa using hne
    unfold renN; simp [List.findIdx?_cons, this]
  have e2 : (Val.loc b :: xs.map Val.d).mapM (renV (renN [b, dg])) = some (.loc 0 :: xs.map .d) := by
    rw [List.mapM_cons, mapM_ren]
    simp [renV, r1]
  have e3 : [b, dg].mapM (objAt st (renN [b, dg])) = some [.lstV [.loc 1, .d a], .lst ds] := by
    simp [objAt, hb, hg, renO, renV, r2]
  unfold framed
  simp only [e1, reach2 hb hg hne, e2, e3, h]
  have e4 : reach [Obj.lstV [.loc 1, .d a2], .lst ds] 1000 [0, 1] [] = [0, 1] := by rfl
  have e5 : st.set dg (.lst ds) = st := List.ext_getElem? fun i => by
    by_cases hi : dg = i
    · subst hi; rw [List.getElem?_set_self hlt2, hg]
    · rw [List.getElem?_set_ne hi]
  unfold back
  simp only [Val.locs, List.length_cons, List.length_nil, Nat.reduceAdd, List.append_nil, show List.range 2 = [0, 1] from rfl, e4]
  simp only [List.filter_cons, List.filter_nil, show decide (2 ≤ 0) = false from rfl, show decide (2 ≤ 1) = false from rfl, Bool.false_eq_true, if_false]
  simp only [List.mapM_cons, List.mapM_nil, objAt, List.getElem?_cons_zero, List.getElem?_cons_succ, renO, renV, Option.bind_some, Option.pure_def, Option.bind_eq_bind, if_pos (show 0 < 2 by decide), if_pos (show 1 < 2 by decide), Option.map_some, putAll, List.append_nil]
  congr 1
  rw [List.set_comm _ _ hne, e5]
theorem draw_call {P : List Fn} (hP : Has P) {N : Nat} {st : Store} {b dg : Nat} {a m : Int} {is : List Int} (hb : st[b]? = some (.lstV [.loc dg, .d (.int a)])) (hg : st[dg]? = some (.lst (is.map .int))) (hne : b ≠ dg) (ha : 0 ≤ a) (hm : 0 < m) :
    ∃ r : Int, 0 ≤ r ∧ r < m ∧ callN P (N + 1) 5 [.loc b, .d (.int m)] st = .ok (.d (.int r)) (st.set b (.lstV [.loc dg, .d (.int (a + 1))])) := by
  have key : ∃ r : Int, 0 ≤ r ∧ r < m ∧ runF (callN P N) F_law_draw [.loc 0, .d (.int m)] [.lstV [.loc 1, .d (.int a)], .lst (is.map .int)] = .ok (.d (.int r)) [.lstV [.loc 1, .d (.int (a + 1))], .lst (is.map .int)] := by
    have i1 : index (.loc 0) (.d (.int 1)) [.lstV [.loc 1, .d (.int a)], .lst (is.map .int)] = .ok (.d (.int a)) [.lstV [.loc 1, .d (.int a)], .lst (is.map .int)] := index_locV (l := 0) (k := 1) rfl rfl rfl
    have s1 : setItem (.loc 0) (.d (.int 1)) (.d (.int (a + 1))) [.lstV [.loc 1, .d (.int a)], .lst (is.map .int)] = .ok () [.lstV [.loc 1, .d (.int (a + 1))], .lst (is.map .int)] := rfl
    have i2 : index (.loc 0) (.d (.int 0)) [.lstV [.loc 1, .d (.int (a + 1))], .lst (is.map .int)] = .ok (.loc 1) [.lstV [.loc 1, .d (.int (a + 1))], .lst (is.map .int)] := index_locV (l := 0) (k := 0) rfl rfl rfl
    have l1 : PI.bcall .len [.loc 1] [.lstV [.loc 1, .d (.int (a + 1))], .lst (is.map .int)] = .ok (.d (.int is.length)) [.lstV [.loc 1, .d (.int (a + 1))], .lst (is.map .int)] := by
      rw [len_loc (l := 1) (xs := is.map .int) rfl, List.length_map]
    by_cases h : a < is.length
    · have hk : a.toNat < is.length := by omega
      have i3 : index (.loc 1) (.d (.int a)) [.lstV [.loc 1, .d (.int (a + 1))], .lst (is.map .int)] = .ok (.d (.int (is[a.toNat]))) [.lstV [.loc 1, .d (.int (a + 1))], .lst (is.map .int)] := by
        have ea : a = (a.toNat : Int) := by omega
        refine index_loc (l := 1) (k := a.toNat) rfl ?_ (by simp [hk])
        rw [List.length_map, ea]
        simp only [Int.toNat_natCast]
        exact ixN_nat hk
      refine ⟨is[a.toNat] % m, Int.emod_nonneg _ (by omega), Int.emod_lt_of_pos _ hm, ?_⟩
      simp only [runF, List.length_cons, List.length_nil, if_true, List.map_cons, List.map_nil, List.replicate, List.cons_append, List.nil_append, Nat.reduceAdd, Nat.reduceSub, F_law_draw]
      simp only [exs_nil, exs_cons, ex_asg, ex_aug, ex_expr, ex_ret, ex_retN, ex_if, ex_while, ex_for, ex_brk, ex_cnt, ex_pass, ex_raise, ev_c, ev_v, ev_tup, ev_lst, ev_bin, ev_cmp, ev_cmp2, ev_and, ev_or, ev_not, ev_ite, ev_ix, ev_sl, ev_call, ev_bcall, ev_isi, ev_bm, evs_nil, evs_cons, evo_none, evo_some, tr_eq, asg_name, asg_tup, asg_sub, setAll_nil, setAll_cons, bind_ok, bind_exc, ofO_some, List.getElem?_cons_zero, List.getElem?_cons_succ, List.set_cons_zero, List.set_cons_succ, Option.map_some, ite_tt, ite_ff, if_T, if_F, add_int, sub_int, iadd_int, isub_int, lt_int, le_int, gt_int, ge_int, eq_int, ne_int, eq_str, ne_str, isin_chr, notin_chr, is_non, isnt_non, non_non, non_int, non_str, non_tup, non_bl, non_loc, tru_bl, tru_int, tru_non, len_str, len_tup, len_lst, int_int, tuple_tup, ty_int, ty_bl, ty_str, ty_tup, ty_non, opt_int, opt_none, Option.isSome_some, Bool.not_true, Bool.not_false, decide_true, decide_false, Bool.false_eq_true, i1, s1, i2, l1, h, i3, mod_int hm]
    · refine ⟨0, by omega, hm, ?_⟩
      simp only [runF, List.length_cons, List.length_nil, if_true, List.map_cons, List.map_nil, List.replicate, List.cons_append, List.nil_append, Nat.reduceAdd, Nat.reduceSub, F_law_draw]
      simp only [exs_nil, exs_cons, ex_asg, ex_aug, ex_expr, ex_ret, ex_retN, ex_if, ex_while, ex_for, ex_brk, ex_cnt, ex_pass, ex_raise, ev_c, ev_v, ev_tup, ev_lst, ev_bin, ev_cmp, ev_cmp2, ev_and, ev_or, ev_not, ev_ite, ev_ix, ev_sl, ev_call, ev_bcall, ev_isi, ev_bm, evs_nil, evs_cons, evo_none, evo_some, tr_eq, asg_name, asg_tup, asg_sub, setAll_nil, setAll_cons, bind_ok, bind_exc, ofO_some, List.getElem?_cons_zero, List.getElem?_cons_succ, List.set_cons_zero, List.set_cons_succ, Option.map_some, ite_tt, ite_ff, if_T, if_F, add_int, sub_int, iadd_int, isub_int, lt_int, le_int, gt_int, ge_int, eq_int, ne_int, eq_str, ne_str, isin_chr, notin_chr, is_non, isnt_non, non_non, non_int, non_str, non_tup, non_bl, non_loc, tru_bl, tru_int, tru_non, len_str, len_tup, len_lst, int_int, tuple_tup, ty_int, ty_bl, ty_str, ty_tup, ty_non, opt_int, opt_none, Option.isSome_some, Bool.not_true, Bool.not_false, decide_true, decide_false, Bool.false_eq_true, i1, s1, i2, l1, h]
  obtain ⟨r, h1, h2, h3⟩ := key
  refine ⟨r, h1, h2, ?_⟩
  rw [callN, hP.law_draw]
  exact framed_box (xs := [.int m]) hb hg hne h3

/-! ### digits -/
theorem cell_call {P : List Fn} (hP : Has P) {N : Nat} {st : Store} {is : List Int} {k : Nat} : ∃ c : Int, callN P (N + 1) 4 [.d (.lst (is.map .int)), .d (.int k)] st = .ok (.d (.int c)) st := by
  by_cases h : k < is.length
  · have hh : (k : Int) < (is.map D.int).length := by rw [List.length_map]; omega
    refine ⟨is[k], callN_d (ds := [.lst (is.map .int), .int k]) hP.law_cell (st2 := []) ?_⟩
    have i1 : index (.d (.lst (is.map .int))) (.d (.int k)) [] = .ok (.d (.int is[k])) [] := index_lst (k := k) (by rw [List.length_map]; exact ixN_nat h) (by simp [h])
    simp only [runF, List.length_cons, List.length_nil, if_true, List.map_cons, List.map_nil, List.replicate, List.cons_append, List.nil_append, Nat.reduceAdd, Nat.reduceSub, F_law_cell]
    simp only [exs_nil, exs_cons, ex_asg, ex_aug, ex_expr, ex_ret, ex_retN, ex_if, ex_while, ex_for, ex_brk, ex_cnt, ex_pass, ex_raise, ev_c, ev_v, ev_tup, ev_lst, ev_bin, ev_cmp, ev_cmp2, ev_and, ev_or, ev_not, ev_ite, ev_ix, ev_sl, ev_call, ev_bcall, ev_isi, ev_bm, evs_nil, evs_cons, evo_none, evo_some, tr_eq, asg_name, asg_tup, asg_sub, setAll_nil, setAll_cons, bind_ok, bind_exc, ofO_some, List.getElem?_cons_zero, List.getElem?_cons_succ, List.set_cons_zero, List.set_cons_succ, Option.map_some, ite_tt, ite_ff, if_T, if_F, add_int, sub_int, iadd_int, isub_int, lt_int, le_int, gt_int, ge_int, eq_int, ne_int, eq_str, ne_str, isin_chr, notin_chr, is_non, isnt_non, non_non, non_int, non_str, non_tup, non_bl, non_loc, tru_bl, tru_int, tru_non, len_str, len_tup, len_lst, int_int, tuple_tup, ty_int, ty_bl, ty_str, ty_tup, ty_non, opt_int, opt_none, Option.isSome_some, Bool.not_true, Bool.not_false, decide_true, decide_false, Bool.false_eq_true, hh, i1]
  · have hh : ¬ (k : Int) < (is.map D.int).length := by rw [List.length_map]; omega
    refine ⟨0, callN_d (ds := [.lst (is.map .int), .int k]) hP.law_cell (st2 := []) ?_⟩
    simp only [runF, List.length_cons, List.length_nil, if_true, List.map_cons, List.map_nil, List.replicate, List.cons_append, List.nil_append, Nat.reduceAdd, Nat.reduceSub, F_law_cell]
    simp only [exs_nil, exs_cons, ex_asg, ex_aug, ex_expr, ex_ret, ex_retN, ex_if, ex_while, ex_for, ex_brk, ex_cnt, ex_pass, ex_raise, ev_c, ev_v, ev_tup, ev_lst, ev_bin, ev_cmp, ev_cmp2, ev_and, ev_or, ev_not, ev_ite, ev_ix, ev_sl, ev_call, ev_bcall, ev_isi, ev_bm, evs_nil, evs_cons, evo_none, evo_some, tr_eq, asg_name, asg_tup, asg_sub, setAll_nil, setAll_cons, bind_ok, bind_exc, ofO_some, List.getElem?_cons_zero, List.getElem?_cons_succ, List.set_cons_zero, List.set_cons_succ, Option.map_some, ite_tt, ite_ff, if_T, if_F, add_int, sub_int, iadd_int, isub_int, lt_int, le_int, gt_int, ge_int, eq_int, ne_int, eq_str, ne_str, isin_chr, notin_chr, is_non, isnt_non, non_non, non_int, non_str, non_tup, non_bl, non_loc, tru_bl, tru_int, tru_non, len_str, len_tup, len_lst, int_int, tuple_tup, ty_int, ty_bl, ty_str, ty_tup, ty_non, opt_int, opt_none, Option.isSome_some, Bool.not_true, Bool.not_false, decide_true, decide_false, Bool.false_eq_true, hh]
theorem app_ints {is : List Int} {k : Int} {st : Store} (h : st = [.lst (is.map .int)]) (hz : is.length < big) : bmeth .append (.loc 0) [.d (.int k)] st = .ok (.d .non) [.lst ((is ++ [k]).map .int)] := by
  subst h
  rw [app_data (l := 0) (xs := is.map .int) rfl (by rw [List.length_map]; exact hz), List.map_append]
  rfl
abbrev dgG : List S := [.for_ (.name 6) (.r1 (.c (.int 60))) [.if_ (.cmp .gt (.v 5) (.c (.int 0))) [.expr (.bm .append (.v 3) [.bin .mod (.bcall .int [.v 5]) (.c (.int 1000))]), .asg (.name 5) (.bin .fdiv (.v 5) (.c (.int 1000)))] []]]
abbrev dgS : List S := [.asg (.name 7) (.bin .mod (.bcall .int [.bin .add (.bin .add (.bin .mul (.v 5) (.c (.int 48271))) (.bin .mul (.v 4) (.c (.int 69621)))) (.c (.int 11))]) (.c (.int 2147483647))), .for_ (.name 6) (.r1 (.c (.int 12))) [.asg (.name 7) (.bin .mod (.bcall .int [.bin .add (.bin .add (.bin .mul (.v 7) (.c (.int 16807))) (.bin .mul (.c (.int 7)) (.v 6))) (.c (.int 1))]) (.c (.int 2147483647))), .expr (.bm .append (.v 3) [.bin .mod (.bcall .int [.bin .fdiv (.v 7) (.c (.int 997))]) (.c (.int 1000))])]]
abbrev dgB : List S := [.asg (.name 5) (.call 4 [.v 0, .v 4]), .if_ (.cmp .lt (.v 5) (.c (.int 0))) [.asg (.name 5) (.bin .sub (.c (.int 1)) (.bin .mul (.c (.int 2)) (.v 5)))] [], .if_ (.cmp .ge (.v 5) (.bin .pow (.c (.int 10)) (.c (.int 18)))) dgG dgS]
theorem F_dg : F_law_digits = ⟨3, 8, [.asg (.name 3) (.lst []), .for_ (.name 4) (.r2 (.v 1) (.v 2)) dgB, .ret (.v 3)]⟩ := rfl
/-- the state in the loops of _law_digits: env of eight, found digits few -/
def DgI (s : D) (m : Nat) (env : Env) (st : Store) : Prop := ∃ (e1 e2 e4 e5 e6 e7 : Option Val) (is : List Int), env = [some (.d s), e1, e2, some (.loc 0), e4, e5, e6, e7] ∧ st = [.lst (is.map .int)] ∧ is.length ≤ m
theorem mulOk_r {i j : Int} (h1 : -(2 ^ 64) < j) (h2 : j < 2 ^ 64) : mulOk i j = true := by
  unfold mulOk
  rw [decide_eq_true h1, decide_eq_true h2]
  simp
theorem mulOk_l {i j : Int} (h1 : -(2 ^ 64) < i) (h2 : i < 2 ^ 64) : mulOk i j = true := by
  unfold mulOk
  rw [decide_eq_true h1, decide_eq_true h2]
  simp
theorem pow18 {st : Store} : bin .pow (.d (.int 10)) (.d (.int 18)) st = .ok (.d (.int (10 ^ 18))) st := rfl
theorem dg_great {cf : CF} {s : D} {m : Nat} {e1 e2 e4 e6 e7 : Option Val} {c : Int} {is : List Int} (hm : m + 60 < 1000000) (hl : is.length ≤ m) :
    ∃ env' st', exs cf dgG [some (.d s), e1, e2, some (.loc 0), e4, some (.d (.int c)), e6, e7] [.lst (is.map .int)] = .ok (.nx env') st' ∧ DgI s (m + 60) env' st' := by
  let I : Nat → Env → Store → Prop := fun j env st => ∃ (e6 : Option Val) (c : Int) (is : List Int), env = [some (.d s), e1, e2, some (.loc 0), e4, some (.d (.int c)), e6, e7] ∧ st = [.lst (is.map .int)] ∧ is.length ≤ m + j
  obtain ⟨env', st', h1, h2⟩ := forD_inv (g := asg cf (.name 6)) (b := exs cf [.if_ (.cmp .gt (.v 5) (.c (.int 0))) [.expr (.bm .append (.v 3) [.bin .mod (.bcall .int [.v 5]) (.c (.int 1000))]), .asg (.name 5) (.bin .fdiv (.v 5) (.c (.int 1000)))] []]) I (rangeL 0 60) 0
    [some (.d s), e1, e2, some (.loc 0), e4, some (.d (.int c)), e6, e7] [.lst (is.map .int)] ⟨e6, c, is, rfl, rfl, by simpa using hl⟩ (by
      rintro i x env st hx ⟨e6, c, is, rfl, rfl, hl⟩
      obtain ⟨hi, rfl⟩ := range_get hx
      by_cases hc : 0 < c
      · refine ⟨_, _, _, _, asg_name, .inl ?_, ⟨some (.d (.int (0 + i))), c / 1000, is ++ [c % 1000], rfl, rfl, by rw [List.length_append, List.length_cons, List.length_nil]; omega⟩⟩
        simp only [exs_nil, exs_cons, ex_asg, ex_aug, ex_expr, ex_ret, ex_retN, ex_if, ex_while, ex_for, ex_brk, ex_cnt, ex_pass, ex_raise, ev_c, ev_v, ev_tup, ev_lst, ev_bin, ev_cmp, ev_cmp2, ev_and, ev_or, ev_not, ev_ite, ev_ix, ev_sl, ev_call, ev_bcall, ev_isi, ev_bm, evs_nil, evs_cons, evo_none, evo_some, tr_eq, asg_name, asg_tup, asg_sub, setAll_nil, setAll_cons, bind_ok, bind_exc, ofO_some, List.getElem?_cons_zero, List.getElem?_cons_succ, List.set_cons_zero, List.set_cons_succ, Option.map_some, ite_tt, ite_ff, if_T, if_F, add_int, sub_int, iadd_int, isub_int, lt_int, le_int, gt_int, ge_int, eq_int, ne_int, eq_str, ne_str, isin_chr, notin_chr, is_non, isnt_non, non_non, non_int, non_str, non_tup, non_bl, non_loc, tru_bl, tru_int, tru_non, len_str, len_tup, len_lst, int_int, tuple_tup, ty_int, ty_bl, ty_str, ty_tup, ty_non, opt_int, opt_none, Option.isSome_some, Bool.not_true, Bool.not_false, decide_true, decide_false, Bool.false_eq_true, hc, recv_loc (st := [.lst (is.map .int)]) (l := 0) rfl, mod_int (show (0 : Int) < 1000 by decide), app_ints (is := is) rfl (by have : big = 16777216 := rfl; omega), fdiv_int (show (0 : Int) < 1000 ∧ (1000 : Int) < 1073741824 by decide)]
      · refine ⟨_, _, _, _, asg_name, .inl ?_, ⟨some (.d (.int (0 + i))), c, is, rfl, rfl, by omega⟩⟩
        simp only [exs_nil, exs_cons, ex_asg, ex_aug, ex_expr, ex_ret, ex_retN, ex_if, ex_while, ex_for, ex_brk, ex_cnt, ex_pass, ex_raise, ev_c, ev_v, ev_tup, ev_lst, ev_bin, ev_cmp, ev_cmp2, ev_and, ev_or, ev_not, ev_ite, ev_ix, ev_sl, ev_call, ev_bcall, ev_isi, ev_bm, evs_nil, evs_cons, evo_none, evo_some, tr_eq, asg_name, asg_tup, asg_sub, setAll_nil, setAll_cons, bind_ok, bind_exc, ofO_some, List.getElem?_cons_zero, List.getElem?_cons_succ, List.set_cons_zero, List.set_cons_succ, Option.map_some, ite_tt, ite_ff, if_T, if_F, add_int, sub_int, iadd_int, isub_int, lt_int, le_int, gt_int, ge_int, eq_int, ne_int, eq_str, ne_str, isin_chr, notin_chr, is_non, isnt_non, non_non, non_int, non_str, non_tup, non_bl, non_loc, tru_bl, tru_int, tru_non, len_str, len_tup, len_lst, int_int, tuple_tup, ty_int, ty_bl, ty_str, ty_tup, ty_non, opt_int, opt_none, Option.isSome_some, Bool.not_true, Bool.not_false, decide_true, decide_false, Bool.false_eq_true, hc])
  refine ⟨env', st', ?_, ?_⟩
  · have hf : fo cf (.name 6) (.r1 (.c (.int 60))) [.if_ (.cmp .gt (.v 5) (.c (.int 0))) [.expr (.bm .append (.v 3) [.bin .mod (.bcall .int [.v 5]) (.c (.int 1000))]), .asg (.name 5) (.bin .fdiv (.v 5) (.c (.int 1000)))] []] [some (.d s), e1, e2, some (.loc 0), e4, some (.d (.int c)), e6, e7] [.lst (is.map .int)] = .ok (.nx env') st' := by
      rw [fo_d (evIt_r1l (i := 60) 60 rfl ev_c (rngOk_nat (by decide)))]
      exact h1
    simp only [exs_nil, exs_cons, ex_asg, ex_aug, ex_expr, ex_ret, ex_retN, ex_if, ex_while, ex_for, ex_brk, ex_cnt, ex_pass, ex_raise, ev_c, ev_v, ev_tup, ev_lst, ev_bin, ev_cmp, ev_cmp2, ev_and, ev_or, ev_not, ev_ite, ev_ix, ev_sl, ev_call, ev_bcall, ev_isi, ev_bm, evs_nil, evs_cons, evo_none, evo_some, tr_eq, asg_name, asg_tup, asg_sub, setAll_nil, setAll_cons, bind_ok, bind_exc, ofO_some, List.getElem?_cons_zero, List.getElem?_cons_succ, List.set_cons_zero, List.set_cons_succ, Option.map_some, ite_tt, ite_ff, if_T, if_F, add_int, sub_int, iadd_int, isub_int, lt_int, le_int, gt_int, ge_int, eq_int, ne_int, eq_str, ne_str, isin_chr, notin_chr, is_non, isnt_non, non_non, non_int, non_str, non_tup, non_bl, non_loc, tru_bl, tru_int, tru_non, len_str, len_tup, len_lst, int_int, tuple_tup, ty_int, ty_bl, ty_str, ty_tup, ty_non, opt_int, opt_none, Option.isSome_some, Bool.not_true, Bool.not_false, decide_true, decide_false, Bool.false_eq_true, hf]
  · obtain ⟨e6, c, is, rfl, rfl, h⟩ := h2
    rw [range_len] at h
    exact ⟨_, _, _, _, _, _, is, rfl, rfl, by omega⟩
theorem dg_small {cf : CF} {s : D} {m : Nat} {e1 e2 e6 e7 : Option Val} {c k : Int} {is : List Int} (hm : m + 60 < 1000000) (hl : is.length ≤ m) :
    ∃ env' st', exs cf dgS [some (.d s), e1, e2, some (.loc 0), some (.d (.int k)), some (.d (.int c)), e6, e7] [.lst (is.map .int)] = .ok (.nx env') st' ∧ DgI s (m + 60) env' st' := by
  let I : Nat → Env → Store → Prop := fun j env st => ∃ (e6 : Option Val) (z : Int) (is : List Int), env = [some (.d s), e1, e2, some (.loc 0), some (.d (.int k)), some (.d (.int c)), e6, some (.d (.int z))] ∧ st = [.lst (is.map .int)] ∧ is.length ≤ m + j
  have q1 : mulOk c 48271 = true := mulOk_r (by decide) (by decide)
  have q2 : mulOk k 69621 = true := mulOk_r (by decide) (by decide)
  generalize hz : (c * 48271 + k * 69621 + 11) % 2147483647 = z
  obtain ⟨env', st', h1, h2⟩ := forD_inv (g := asg cf (.name 6)) (b := exs cf [.asg (.name 7) (.bin .mod (.bcall .int [.bin .add (.bin .add (.bin .mul (.v 7) (.c (.int 16807))) (.bin .mul (.c (.int 7)) (.v 6))) (.c (.int 1))]) (.c (.int 2147483647))), .expr (.bm .append (.v 3) [.bin .mod (.bcall .int [.bin .fdiv (.v 7) (.c (.int 997))]) (.c (.int 1000))])]) I (rangeL 0 12) 0
    [some (.d s), e1, e2, some (.loc 0), some (.d (.int k)), some (.d (.int c)), e6, some (.d (.int z))] [.lst (is.map .int)] ⟨e6, z, is, rfl, rfl, by simpa using hl⟩ (by
      rintro i x env st hx ⟨e6, z, is, rfl, rfl, hl⟩
      obtain ⟨hi, rfl⟩ := range_get hx
      have q3 : mulOk z 16807 = true := mulOk_r (by decide) (by decide)
      have q4 : mulOk 7 (0 + (i : Int)) = true := mulOk_l (by decide) (by decide)
      refine ⟨_, _, _, _, asg_name, .inl ?_, ⟨some (.d (.int (0 + i))), (z * 16807 + 7 * (0 + i) + 1) % 2147483647, is ++ [(z * 16807 + 7 * (0 + i) + 1) % 2147483647 / 997 % 1000], rfl, rfl, by rw [List.length_append, List.length_cons, List.length_nil]; omega⟩⟩
      simp only [exs_nil, exs_cons, ex_asg, ex_aug, ex_expr, ex_ret, ex_retN, ex_if, ex_while, ex_for, ex_brk, ex_cnt, ex_pass, ex_raise, ev_c, ev_v, ev_tup, ev_lst, ev_bin, ev_cmp, ev_cmp2, ev_and, ev_or, ev_not, ev_ite, ev_ix, ev_sl, ev_call, ev_bcall, ev_isi, ev_bm, evs_nil, evs_cons, evo_none, evo_some, tr_eq, asg_name, asg_tup, asg_sub, setAll_nil, setAll_cons, bind_ok, bind_exc, ofO_some, List.getElem?_cons_zero, List.getElem?_cons_succ, List.set_cons_zero, List.set_cons_succ, Option.map_some, ite_tt, ite_ff, if_T, if_F, add_int, sub_int, iadd_int, isub_int, lt_int, le_int, gt_int, ge_int, eq_int, ne_int, eq_str, ne_str, isin_chr, notin_chr, is_non, isnt_non, non_non, non_int, non_str, non_tup, non_bl, non_loc, tru_bl, tru_int, tru_non, len_str, len_tup, len_lst, int_int, tuple_tup, ty_int, ty_bl, ty_str, ty_tup, ty_non, opt_int, opt_none, Option.isSome_some, Bool.not_true, Bool.not_false, decide_true, decide_false, Bool.false_eq_true, mul_int q3, mul_int q4, recv_loc (st := [.lst (is.map .int)]) (l := 0) rfl, mod_int (show (0 : Int) < 1000 by decide), mod_int (show (0 : Int) < 2147483647 by decide), app_ints (is := is) rfl (by have : big = 16777216 := rfl; omega), fdiv_int (show (0 : Int) < 997 ∧ (997 : Int) < 1073741824 by decide)])
  refine ⟨env', st', ?_, ?_⟩
  · have hf : fo cf (.name 6) (.r1 (.c (.int 12))) [.asg (.name 7) (.bin .mod (.bcall .int [.bin .add (.bin .add (.bin .mul (.v 7) (.c (.int 16807))) (.bin .mul (.c (.int 7)) (.v 6))) (.c (.int 1))]) (.c (.int 2147483647))), .expr (.bm .append (.v 3) [.bin .mod (.bcall .int [.bin .fdiv (.v 7) (.c (.int 997))]) (.c (.int 1000))])] [some (.d s), e1, e2, some (.loc 0), some (.d (.int k)), some (.d (.int c)), e6, some (.d (.int z))] [.lst (is.map .int)] = .ok (.nx env') st' := by
      rw [fo_d (evIt_r1l (i := 12) 12 rfl ev_c (rngOk_nat (by decide)))]
      exact h1
    simp only [exs_nil, exs_cons, ex_asg, ex_aug, ex_expr, ex_ret, ex_retN, ex_if, ex_while, ex_for, ex_brk, ex_cnt, ex_pass, ex_raise, ev_c, ev_v, ev_tup, ev_lst, ev_bin, ev_cmp, ev_cmp2, ev_and, ev_or, ev_not, ev_ite, ev_ix, ev_sl, ev_call, ev_bcall, ev_isi, ev_bm, evs_nil, evs_cons, evo_none, evo_some, tr_eq, asg_name, asg_tup, asg_sub, setAll_nil, setAll_cons, bind_ok, bind_exc, ofO_some, List.getElem?_cons_zero, List.getElem?_cons_succ, List.set_cons_zero, List.set_cons_succ, Option.map_some, ite_tt, ite_ff, if_T, if_F, add_int, sub_int, iadd_int, isub_int, lt_int, le_int, gt_int, ge_int, eq_int, ne_int, eq_str, ne_str, isin_chr, notin_chr, is_non, isnt_non, non_non, non_int, non_str, non_tup, non_bl, non_loc, tru_bl, tru_int, tru_non, len_str, len_tup, len_lst, int_int, tuple_tup, ty_int, ty_bl, ty_str, ty_tup, ty_non, opt_int, opt_none, Option.isSome_some, Bool.not_true, Bool.not_false, decide_true, decide_false, Bool.false_eq_true, mul_int q1, mul_int q2, mod_int (show (0 : Int) < 2147483647 by decide), hz, hf]
  · obtain ⟨e6, z, is, rfl, rfl, h⟩ := h2
    rw [range_len] at h
    exact ⟨_, _, _, _, _, _, is, rfl, rfl, by omega⟩
theorem dg_go {cf : CF} {s : D} {m : Nat} {e1 e2 e6 e7 : Option Val} {c k : Int} {is : List Int} (hm : m + 60 < 1000000) (hl : is.length ≤ m) :
    ∃ env2 st2, exs cf [.if_ (.cmp .ge (.v 5) (.bin .pow (.c (.int 10)) (.c (.int 18)))) dgG dgS] [some (.d s), e1, e2, some (.loc 0), some (.d (.int k)), some (.d (.int c)), e6, e7] [.lst (is.map .int)] = .ok (.nx env2) st2 ∧ DgI s (m + 60) env2 st2 := by
  have hp : ev cf (.bin .pow (.c (.int 10)) (.c (.int 18))) [some (.d s), e1, e2, some (.loc 0), some (.d (.int k)), some (.d (.int c)), e6, e7] [.lst (is.map .int)] = .ok (.d (.int (10 ^ 18))) [.lst (is.map .int)] := by
    rw [ev_bin, ev_c, bind_ok, ev_c, bind_ok, pow18]
  have hv : ev cf (.v 5) [some (.d s), e1, e2, some (.loc 0), some (.d (.int k)), some (.d (.int c)), e6, e7] [.lst (is.map .int)] = .ok (.d (.int c)) [.lst (is.map .int)] := by
    rw [ev_v]; rfl
  have hc : tr cf (.cmp .ge (.v 5) (.bin .pow (.c (.int 10)) (.c (.int 18)))) [some (.d s), e1, e2, some (.loc 0), some (.d (.int k)), some (.d (.int c)), e6, e7] [.lst (is.map .int)] = .ok (decide ((10 : Int) ^ 18 ≤ c)) [.lst (is.map .int)] := by
    rw [tr_eq, ev_cmp, hv, bind_ok, hp, bind_ok, ge_int]
    rfl
  rw [exs_cons, ex_if, hc, bind_ok]
  cases decide ((10 : Int) ^ 18 ≤ c) with
  | true =>
    obtain ⟨env2, st2, g1, g2⟩ := dg_great (cf := cf) (s := s) (e1 := e1) (e2 := e2) (e4 := some (.d (.int k))) (e6 := e6) (e7 := e7) (c := c) hm hl
    refine ⟨env2, st2, ?_, g2⟩
    rw [if_pos rfl, g1, bind_ok]
    exact exs_nil
  | false =>
    obtain ⟨env2, st2, g1, g2⟩ := dg_small (cf := cf) (s := s) (e1 := e1) (e2 := e2) (k := k) (e6 := e6) (e7 := e7) (c := c) hm hl
    refine ⟨env2, st2, ?_, g2⟩
    rw [if_neg Bool.false_ne_true, g1, bind_ok]
    exact exs_nil
theorem dg_turn {P : List Fn} (hP : Has P) {N : Nat} {is ds : List Int} {m i : Nat} {e1 e2 e5 e6 e7 : Option Val} (hm : m + 60 < 1000000) (hl : ds.length ≤ m) :
    ∃ env2 st2, exs (callN P (N + 1)) dgB [some (.d (.lst (is.map .int))), e1, e2, some (.loc 0), some (.d (.int i)), e5, e6, e7] [.lst (ds.map .int)] = .ok (.nx env2) st2 ∧ DgI (.lst (is.map .int)) (m + 60) env2 st2 := by
  obtain ⟨c, hc⟩ := cell_call hP (N := N) (st := [.lst (ds.map .int)]) (is := is) (k := i)
  have q2 : mulOk 2 c = true := mulOk_l (by decide) (by decide)
  rw [exs_cons, ex_asg]
  simp only [ev_call, evs_cons, evs_nil, ev_v, bind_ok, List.getElem?_cons_succ, List.getElem?_cons_zero, hc, asg_name, List.set_cons_succ, List.set_cons_zero]
  rw [exs_cons, ex_if]
  by_cases hn : c < 0
  · obtain ⟨env2, st2, g1, g2⟩ := dg_go (cf := callN P (N + 1)) (s := .lst (is.map .int)) (e1 := e1) (e2 := e2) (e6 := e6) (e7 := e7) (c := 1 - 2 * c) (k := i) hm hl
    refine ⟨env2, st2, ?_, g2⟩
    simp only [tr_eq, ev_cmp, ev_v, ev_c, bind_ok, List.getElem?_cons_succ, List.getElem?_cons_zero, lt_int, Option.map_some, ofO_some, tru_bl, hn, decide_true, if_T]
    rw [exs_cons, ex_asg]
    simp only [ev_bin, ev_v, ev_c, bind_ok, List.getElem?_cons_succ, List.getElem?_cons_zero, mul_int q2, sub_int, asg_name, List.set_cons_succ, List.set_cons_zero, exs_nil]
    exact g1
  · obtain ⟨env2, st2, g1, g2⟩ := dg_go (cf := callN P (N + 1)) (s := .lst (is.map .int)) (e1 := e1) (e2 := e2) (e6 := e6) (e7 := e7) (c := c) (k := i) hm hl
    refine ⟨env2, st2, ?_, g2⟩
    simp only [tr_eq, ev_cmp, ev_v, ev_c, bind_ok, List.getElem?_cons_succ, List.getElem?_cons_zero, lt_int, Option.map_some, ofO_some, tru_bl, hn, decide_false, Bool.false_eq_true, if_F, exs_nil]
    exact g1
theorem dg_loop {P : List Fn} (hP : Has P) {N : Nat} {is : List Int} {last : Nat} (hl : last ≤ 63) :
    ∃ env' st', forD (asg (callN P (N + 1)) (.name 4)) (exs (callN P (N + 1)) dgB) (rangeL 0 last) [some (.d (.lst (is.map .int))), some (.d (.int 0)), some (.d (.int last)), some (.loc 0), none, none, none, none] [.lst []] = .ok (.nx env') st' ∧ DgI (.lst (is.map .int)) (60 * last) env' st' := by
  obtain ⟨env', st', h1, h2⟩ := forD_inv (g := asg (callN P (N + 1)) (.name 4)) (b := exs (callN P (N + 1)) dgB) (fun j env st => DgI (.lst (is.map .int)) (60 * j) env st) (rangeL 0 last) 0
      [some (.d (.lst (is.map .int))), some (.d (.int 0)), some (.d (.int last)), some (.loc 0), none, none, none, none] [.lst []] ⟨_, _, _, _, _, _, [], rfl, rfl, Nat.zero_le _⟩ (by
        rintro i x env st hx ⟨e1, e2, e4, e5, e6, e7, ds, rfl, rfl, hds⟩
        obtain ⟨hi, rfl⟩ := range_get hx
        obtain ⟨env2, st2, g1, g2⟩ := dg_turn hP (N := N) (is := is) (ds := ds) (m := 60 * (0 + i)) (i := i) (e1 := e1) (e2 := e2) (e5 := e5) (e6 := e6) (e7 := e7) (by omega) hds
        refine ⟨_, _, env2, st2, asg_name, .inl ?_, ?_⟩
        · rw [show (0 + (i : Int)) = (i : Int) by omega]
          exact g1
        · rw [show 60 * (0 + i + 1) = 60 * (0 + i) + 60 by omega]
          exact g2)
  refine ⟨env', st', h1, ?_⟩
  rw [range_len, Nat.zero_add] at h2
  exact h2
theorem digits_run {P : List Fn} (hP : Has P) {N : Nat} {is : List Int} {last : Nat} (hl : last ≤ 63) : ∃ ds : List Int, runF (callN P (N + 1)) F_law_digits [.d (.lst (is.map .int)), .d (.int 0), .d (.int last)] [] = .ok (.loc 0) [.lst (ds.map .int)] := by
  have hr : rngOk (last : Int) = true := rngOk_nat (Nat.lt_of_le_of_lt hl (by decide))
  have hz : (0 : Nat) ≤ big := Nat.zero_le _
  obtain ⟨env', st', h1, h2⟩ := dg_loop hP (N := N) (is := is) hl
  obtain ⟨e1, e2, e4, e5, e6, e7, ds, rfl, rfl, hds⟩ := h2
  refine ⟨ds, ?_⟩
  have hf : fo (callN P (N + 1)) (.name 4) (.r2 (.v 1) (.v 2)) dgB [some (.d (.lst (is.map .int))), some (.d (.int 0)), some (.d (.int last)), some (.loc 0), none, none, none, none] [.lst []] = .ok (.nx [some (.d (.lst (is.map .int))), e1, e2, some (.loc 0), e4, e5, e6, e7]) [.lst (ds.map .int)] := by
    rw [fo_d (evIt_r2z (n := last) (st1 := [.lst []]) (st2 := [.lst []]) (by rw [ev_v]; rfl) (by rw [ev_v]; rfl) hr)]
    exact h1
  rw [F_dg]
  simp only [runF, List.length_cons, List.length_nil, if_true, List.map_cons, List.map_nil, List.replicate, List.cons_append, List.nil_append, Nat.reduceAdd, Nat.reduceSub]
  rw [exs_cons, ex_asg, ev_lst_nil]
  simp only [exs_nil, exs_cons, ex_asg, ex_aug, ex_expr, ex_ret, ex_retN, ex_if, ex_while, ex_for, ex_brk, ex_cnt, ex_pass, ex_raise, ev_c, ev_v, ev_tup, ev_lst, ev_bin, ev_cmp, ev_cmp2, ev_and, ev_or, ev_not, ev_ite, ev_ix, ev_sl, ev_call, ev_bcall, ev_isi, ev_bm, evs_nil, evs_cons, evo_none, evo_some, tr_eq, asg_name, asg_tup, asg_sub, setAll_nil, setAll_cons, bind_ok, bind_exc, ofO_some, List.getElem?_cons_zero, List.getElem?_cons_succ, List.set_cons_zero, List.set_cons_succ, Option.map_some, ite_tt, ite_ff, if_T, if_F, add_int, sub_int, iadd_int, isub_int, lt_int, le_int, gt_int, ge_int, eq_int, ne_int, eq_str, ne_str, isin_chr, notin_chr, is_non, isnt_non, non_non, non_int, non_str, non_tup, non_bl, non_loc, tru_bl, tru_int, tru_non, len_str, len_tup, len_lst, int_int, tuple_tup, ty_int, ty_bl, ty_str, ty_tup, ty_non, opt_int, opt_none, Option.isSome_some, Bool.not_true, Bool.not_false, decide_true, decide_false, Bool.false_eq_true, List.length_nil, List.nil_append, hf]
/-- the numbers of a script, as a list -/
theorem digits_call {P : List Fn} (hP : Has P) {N : Nat} {st : Store} {is : List Int} {last : Nat} (hl : last ≤ 63) : ∃ ds : List Int, callN P (N + 1 + 1) 3 [.d (.lst (is.map .int)), .d (.int 0), .d (.int last)] st = .ok (.loc st.length) (st ++ [.lst (ds.map .int)]) := by
  obtain ⟨ds, key⟩ := digits_run hP (N := N) (is := is) hl
  have := callN_l (st := st) (ds := [.lst (is.map .int), .int 0, .int last]) (xs := ds.map .int) hP.law_digits key rfl
  simp only [List.map_cons, List.map_nil] at this
  exact ⟨ds, this⟩
/-- the box: its place, the numbers behind it -/
theorem box_call {P : List Fn} (hP : Has P) {N : Nat} {st : Store} {is : List Int} {last : Nat} (hl : last ≤ 63) : ∃ ds : List Int, callN P (N + 1 + 1 + 1) 2 [.d (.lst (is.map .int)), .d (.int 0), .d (.int last)] st = .ok (.loc st.length) (st ++ [.lstV [.loc (st.length + 1), .d (.int 0)], .lst (ds.map .int)]) := by
  obtain ⟨ds, hd⟩ := digits_call hP (N := N) (st := []) (is := is) hl
  refine ⟨ds, ?_⟩
  have key : runF (callN P (N + 1 + 1)) F_law_box [.d (.lst (is.map .int)), .d (.int 0), .d (.int last)] [] = .ok (.loc 1) [.lst (ds.map .int), .lstV [.loc 0, .d (.int 0)]] := by
    simp only [runF, List.length_cons, List.length_nil, if_true, List.map_cons, List.map_nil, List.replicate, List.cons_append, List.nil_append, Nat.reduceAdd, Nat.reduceSub, F_law_box]
    simp only [exs_nil, exs_cons, ex_asg, ex_aug, ex_expr, ex_ret, ex_retN, ex_if, ex_while, ex_for, ex_brk, ex_cnt, ex_pass, ex_raise, ev_c, ev_v, ev_tup, ev_lst, ev_bin, ev_cmp, ev_cmp2, ev_and, ev_or, ev_not, ev_ite, ev_ix, ev_sl, ev_call, ev_bcall, ev_isi, ev_bm, evs_nil, evs_cons, evo_none, evo_some, tr_eq, asg_name, asg_tup, asg_sub, setAll_nil, setAll_cons, bind_ok, bind_exc, ofO_some, List.getElem?_cons_zero, List.getElem?_cons_succ, List.set_cons_zero, List.set_cons_succ, Option.map_some, ite_tt, ite_ff, if_T, if_F, add_int, sub_int, iadd_int, isub_int, lt_int, le_int, gt_int, ge_int, eq_int, ne_int, eq_str, ne_str, isin_chr, notin_chr, is_non, isnt_non, non_non, non_int, non_str, non_tup, non_bl, non_loc, tru_bl, tru_int, tru_non, len_str, len_tup, len_lst, int_int, tuple_tup, ty_int, ty_bl, ty_str, ty_tup, ty_non, opt_int, opt_none, Option.isSome_some, Bool.not_true, Bool.not_false, decide_true, decide_false, Bool.false_eq_true, hd, if_pos (show 2 ≤ big by decide), List.length_cons, List.length_nil, Nat.reduceAdd]
    rfl
  have e2 : reach [Obj.lst (ds.map .int), .lstV [.loc 0, .d (.int 0)]] 1000 [1] [] = [1, 0] := reach2 (b := 1) (g := 0) rfl rfl (by decide)
  rw [callN, hP.law_box]
  unfold framed
  have e0 : ([] : List Nat).mapM (objAt st (renN [])) = some [] := rfl
  have e1 := locs_ds [.lst (is.map .int), .int 0, .int last]
  have e3 := mapM_ren (f := renN []) [.lst (is.map .int), .int 0, .int last]
  simp only [List.map_cons, List.map_nil] at e1 e3
  simp only [e1, reach_nil, e3, e0, key]
  unfold back
  simp only [Val.locs, List.length_nil, List.range_zero, List.nil_append, e2]
  simp [putAll, renN, List.findIdx?_cons, renV, objAt, renO]

/-! ### the comparison of the laws -/
mutual
/-- what _law_same takes: none, bools, numbers, texts, tuples of such -/
def flatD : D → Bool
  | .lst _ => false
  | .tup xs => flatDs xs
  | _ => true
def flatDs : List D → Bool
  | [] => true
  | x :: xs => flatD x && flatDs xs
end
theorem flatDs_mem : ∀ {xs : List D}, flatDs xs = true → ∀ x ∈ xs, flatD x = true
  | [], _, x, h => by cases h
  | y :: ys, h, x, hx => by
    rw [flatDs] at h
    obtain ⟨h1, h2⟩ := Bool.and_eq_true_iff.mp h
    rcases List.mem_cons.mp hx with rfl | hx
    · exact h1
    · exact flatDs_mem h2 x hx
theorem dles_mem : ∀ {xs : List D} {n : Nat}, dles n xs = true → ∀ x ∈ xs, dle n x = true
  | [], _, _, x, h => by cases h
  | y :: ys, n, h, x, hx => by
    rw [dles] at h
    obtain ⟨h1, h2⟩ := Bool.and_eq_true_iff.mp h
    rcases List.mem_cons.mp hx with rfl | hx
    · exact h1
    · exact dles_mem h2 x hx
abbrev smB : List S := [.if_ (.not (.call 6 [.ix (.v 0) (.v 2), .ix (.v 1) (.v 2)])) [.ret (.c (.bl false))] []]
/-- every tuple in it is short -/
def shortD : Nat → D → Prop
  | 0, _ => True
  | n + 1, .tup xs => xs.length < 1000000 ∧ ∀ x ∈ xs, shortD n x
  | _, _ => True
theorem same_call {P : List Fn} (hP : Has P) : ∀ (d : Nat) (x : D) (N : Nat) (st : Store), flatD x = true → dle d x = true → shortD d x → d ≤ N → callN P (N + 1) 6 [.d x, .d x] st = .ok (.d (.bl true)) st := by
  intro d
  induction d with
  | zero =>
    intro x N st h1 h2 _ _
    refine callN_d (ds := [x, x]) hP.law_same (st2 := []) ?_
    cases x with
    | tup xs => cases h2
    | lst xs => cases h1
    | non => simp only [runF, List.length_cons, List.length_nil, if_true, List.map_cons, List.map_nil, List.replicate, List.cons_append, List.nil_append, Nat.reduceAdd, Nat.reduceSub, F_law_same]; simp only [exs_nil, exs_cons, ex_asg, ex_aug, ex_expr, ex_ret, ex_retN, ex_if, ex_while, ex_for, ex_brk, ex_cnt, ex_pass, ex_raise, ev_c, ev_v, ev_tup, ev_lst, ev_bin, ev_cmp, ev_cmp2, ev_and, ev_or, ev_not, ev_ite, ev_ix, ev_sl, ev_call, ev_bcall, ev_isi, ev_bm, evs_nil, evs_cons, evo_none, evo_some, tr_eq, asg_name, asg_tup, asg_sub, setAll_nil, setAll_cons, bind_ok, bind_exc, ofO_some, List.getElem?_cons_zero, List.getElem?_cons_succ, List.set_cons_zero, List.set_cons_succ, Option.map_some, ite_tt, ite_ff, if_T, if_F, add_int, sub_int, iadd_int, isub_int, lt_int, le_int, gt_int, ge_int, eq_int, ne_int, eq_str, ne_str, isin_chr, notin_chr, is_non, isnt_non, non_non, non_int, non_str, non_tup, non_bl, non_loc, tru_bl, tru_int, tru_non, len_str, len_tup, len_lst, int_int, tuple_tup, ty_int, ty_bl, ty_str, ty_tup, ty_non, opt_int, opt_none, Option.isSome_some, Bool.not_true, Bool.not_false, decide_true, decide_false, Bool.false_eq_true]
    | bl b => simp only [runF, List.length_cons, List.length_nil, if_true, List.map_cons, List.map_nil, List.replicate, List.cons_append, List.nil_append, Nat.reduceAdd, Nat.reduceSub, F_law_same]; simp only [exs_nil, exs_cons, ex_asg, ex_aug, ex_expr, ex_ret, ex_retN, ex_if, ex_while, ex_for, ex_brk, ex_cnt, ex_pass, ex_raise, ev_c, ev_v, ev_tup, ev_lst, ev_bin, ev_cmp, ev_cmp2, ev_and, ev_or, ev_not, ev_ite, ev_ix, ev_sl, ev_call, ev_bcall, ev_isi, ev_bm, evs_nil, evs_cons, evo_none, evo_some, tr_eq, asg_name, asg_tup, asg_sub, setAll_nil, setAll_cons, bind_ok, bind_exc, ofO_some, List.getElem?_cons_zero, List.getElem?_cons_succ, List.set_cons_zero, List.set_cons_succ, Option.map_some, ite_tt, ite_ff, if_T, if_F, add_int, sub_int, iadd_int, isub_int, lt_int, le_int, gt_int, ge_int, eq_int, ne_int, eq_str, ne_str, isin_chr, notin_chr, is_non, isnt_non, non_non, non_int, non_str, non_tup, non_bl, non_loc, tru_bl, tru_int, tru_non, len_str, len_tup, len_lst, int_int, tuple_tup, ty_int, ty_bl, ty_str, ty_tup, ty_non, opt_int, opt_none, Option.isSome_some, Bool.not_true, Bool.not_false, decide_true, decide_false, Bool.false_eq_true, eq_data (a := .bl b) (c := .bl b) (.inl rfl), eqv, beq_self_eq_true]
    | int i => simp only [runF, List.length_cons, List.length_nil, if_true, List.map_cons, List.map_nil, List.replicate, List.cons_append, List.nil_append, Nat.reduceAdd, Nat.reduceSub, F_law_same]; simp only [exs_nil, exs_cons, ex_asg, ex_aug, ex_expr, ex_ret, ex_retN, ex_if, ex_while, ex_for, ex_brk, ex_cnt, ex_pass, ex_raise, ev_c, ev_v, ev_tup, ev_lst, ev_bin, ev_cmp, ev_cmp2, ev_and, ev_or, ev_not, ev_ite, ev_ix, ev_sl, ev_call, ev_bcall, ev_isi, ev_bm, evs_nil, evs_cons, evo_none, evo_some, tr_eq, asg_name, asg_tup, asg_sub, setAll_nil, setAll_cons, bind_ok, bind_exc, ofO_some, List.getElem?_cons_zero, List.getElem?_cons_succ, List.set_cons_zero, List.set_cons_succ, Option.map_some, ite_tt, ite_ff, if_T, if_F, add_int, sub_int, iadd_int, isub_int, lt_int, le_int, gt_int, ge_int, eq_int, ne_int, eq_str, ne_str, isin_chr, notin_chr, is_non, isnt_non, non_non, non_int, non_str, non_tup, non_bl, non_loc, tru_bl, tru_int, tru_non, len_str, len_tup, len_lst, int_int, tuple_tup, ty_int, ty_bl, ty_str, ty_tup, ty_non, opt_int, opt_none, Option.isSome_some, Bool.not_true, Bool.not_false, decide_true, decide_false, Bool.false_eq_true]
    | str s => simp only [runF, List.length_cons, List.length_nil, if_true, List.map_cons, List.map_nil, List.replicate, List.cons_append, List.nil_append, Nat.reduceAdd, Nat.reduceSub, F_law_same]; simp only [exs_nil, exs_cons, ex_asg, ex_aug, ex_expr, ex_ret, ex_retN, ex_if, ex_while, ex_for, ex_brk, ex_cnt, ex_pass, ex_raise, ev_c, ev_v, ev_tup, ev_lst, ev_bin, ev_cmp, ev_cmp2, ev_and, ev_or, ev_not, ev_ite, ev_ix, ev_sl, ev_call, ev_bcall, ev_isi, ev_bm, evs_nil, evs_cons, evo_none, evo_some, tr_eq, asg_name, asg_tup, asg_sub, setAll_nil, setAll_cons, bind_ok, bind_exc, ofO_some, List.getElem?_cons_zero, List.getElem?_cons_succ, List.set_cons_zero, List.set_cons_succ, Option.map_some, ite_tt, ite_ff, if_T, if_F, add_int, sub_int, iadd_int, isub_int, lt_int, le_int, gt_int, ge_int, eq_int, ne_int, eq_str, ne_str, isin_chr, notin_chr, is_non, isnt_non, non_non, non_int, non_str, non_tup, non_bl, non_loc, tru_bl, tru_int, tru_non, len_str, len_tup, len_lst, int_int, tuple_tup, ty_int, ty_bl, ty_str, ty_tup, ty_non, opt_int, opt_none, Option.isSome_some, Bool.not_true, Bool.not_false, decide_true, decide_false, Bool.false_eq_true]
  | succ d ih =>
    intro x N st h1 h2 hs hN
    refine callN_d (ds := [x, x]) hP.law_same (st2 := []) ?_
    cases x with
    | lst xs => cases h1
    | non => simp only [runF, List.length_cons, List.length_nil, if_true, List.map_cons, List.map_nil, List.replicate, List.cons_append, List.nil_append, Nat.reduceAdd, Nat.reduceSub, F_law_same]; simp only [exs_nil, exs_cons, ex_asg, ex_aug, ex_expr, ex_ret, ex_retN, ex_if, ex_while, ex_for, ex_brk, ex_cnt, ex_pass, ex_raise, ev_c, ev_v, ev_tup, ev_lst, ev_bin, ev_cmp, ev_cmp2, ev_and, ev_or, ev_not, ev_ite, ev_ix, ev_sl, ev_call, ev_bcall, ev_isi, ev_bm, evs_nil, evs_cons, evo_none, evo_some, tr_eq, asg_name, asg_tup, asg_sub, setAll_nil, setAll_cons, bind_ok, bind_exc, ofO_some, List.getElem?_cons_zero, List.getElem?_cons_succ, List.set_cons_zero, List.set_cons_succ, Option.map_some, ite_tt, ite_ff, if_T, if_F, add_int, sub_int, iadd_int, isub_int, lt_int, le_int, gt_int, ge_int, eq_int, ne_int, eq_str, ne_str, isin_chr, notin_chr, is_non, isnt_non, non_non, non_int, non_str, non_tup, non_bl, non_loc, tru_bl, tru_int, tru_non, len_str, len_tup, len_lst, int_int, tuple_tup, ty_int, ty_bl, ty_str, ty_tup, ty_non, opt_int, opt_none, Option.isSome_some, Bool.not_true, Bool.not_false, decide_true, decide_false, Bool.false_eq_true]
    | bl b => simp only [runF, List.length_cons, List.length_nil, if_true, List.map_cons, List.map_nil, List.replicate, List.cons_append, List.nil_append, Nat.reduceAdd, Nat.reduceSub, F_law_same]; simp only [exs_nil, exs_cons, ex_asg, ex_aug, ex_expr, ex_ret, ex_retN, ex_if, ex_while, ex_for, ex_brk, ex_cnt, ex_pass, ex_raise, ev_c, ev_v, ev_tup, ev_lst, ev_bin, ev_cmp, ev_cmp2, ev_and, ev_or, ev_not, ev_ite, ev_ix, ev_sl, ev_call, ev_bcall, ev_isi, ev_bm, evs_nil, evs_cons, evo_none, evo_some, tr_eq, asg_name, asg_tup, asg_sub, setAll_nil, setAll_cons, bind_ok, bind_exc, ofO_some, List.getElem?_cons_zero, List.getElem?_cons_succ, List.set_cons_zero, List.set_cons_succ, Option.map_some, ite_tt, ite_ff, if_T, if_F, add_int, sub_int, iadd_int, isub_int, lt_int, le_int, gt_int, ge_int, eq_int, ne_int, eq_str, ne_str, isin_chr, notin_chr, is_non, isnt_non, non_non, non_int, non_str, non_tup, non_bl, non_loc, tru_bl, tru_int, tru_non, len_str, len_tup, len_lst, int_int, tuple_tup, ty_int, ty_bl, ty_str, ty_tup, ty_non, opt_int, opt_none, Option.isSome_some, Bool.not_true, Bool.not_false, decide_true, decide_false, Bool.false_eq_true, eq_data (a := .bl b) (c := .bl b) (.inl rfl), eqv, beq_self_eq_true]
    | int i => simp only [runF, List.length_cons, List.length_nil, if_true, List.map_cons, List.map_nil, List.replicate, List.cons_append, List.nil_append, Nat.reduceAdd, Nat.reduceSub, F_law_same]; simp only [exs_nil, exs_cons, ex_asg, ex_aug, ex_expr, ex_ret, ex_retN, ex_if, ex_while, ex_for, ex_brk, ex_cnt, ex_pass, ex_raise, ev_c, ev_v, ev_tup, ev_lst, ev_bin, ev_cmp, ev_cmp2, ev_and, ev_or, ev_not, ev_ite, ev_ix, ev_sl, ev_call, ev_bcall, ev_isi, ev_bm, evs_nil, evs_cons, evo_none, evo_some, tr_eq, asg_name, asg_tup, asg_sub, setAll_nil, setAll_cons, bind_ok, bind_exc, ofO_some, List.getElem?_cons_zero, List.getElem?_cons_succ, List.set_cons_zero, List.set_cons_succ, Option.map_some, ite_tt, ite_ff, if_T, if_F, add_int, sub_int, iadd_int, isub_int, lt_int, le_int, gt_int, ge_int, eq_int, ne_int, eq_str, ne_str, isin_chr, notin_chr, is_non, isnt_non, non_non, non_int, non_str, non_tup, non_bl, non_loc, tru_bl, tru_int, tru_non, len_str, len_tup, len_lst, int_int, tuple_tup, ty_int, ty_bl, ty_str, ty_tup, ty_non, opt_int, opt_none, Option.isSome_some, Bool.not_true, Bool.not_false, decide_true, decide_false, Bool.false_eq_true]
    | str s => simp only [runF, List.length_cons, List.length_nil, if_true, List.map_cons, List.map_nil, List.replicate, List.cons_append, List.nil_append, Nat.reduceAdd, Nat.reduceSub, F_law_same]; simp only [exs_nil, exs_cons, ex_asg, ex_aug, ex_expr, ex_ret, ex_retN, ex_if, ex_while, ex_for, ex_brk, ex_cnt, ex_pass, ex_raise, ev_c, ev_v, ev_tup, ev_lst, ev_bin, ev_cmp, ev_cmp2, ev_and, ev_or, ev_not, ev_ite, ev_ix, ev_sl, ev_call, ev_bcall, ev_isi, ev_bm, evs_nil, evs_cons, evo_none, evo_some, tr_eq, asg_name, asg_tup, asg_sub, setAll_nil, setAll_cons, bind_ok, bind_exc, ofO_some, List.getElem?_cons_zero, List.getElem?_cons_succ, List.set_cons_zero, List.set_cons_succ, Option.map_some, ite_tt, ite_ff, if_T, if_F, add_int, sub_int, iadd_int, isub_int, lt_int, le_int, gt_int, ge_int, eq_int, ne_int, eq_str, ne_str, isin_chr, notin_chr, is_non, isnt_non, non_non, non_int, non_str, non_tup, non_bl, non_loc, tru_bl, tru_int, tru_non, len_str, len_tup, len_lst, int_int, tuple_tup, ty_int, ty_bl, ty_str, ty_tup, ty_non, opt_int, opt_none, Option.isSome_some, Bool.not_true, Bool.not_false, decide_true, decide_false, Bool.false_eq_true]
    | tup xs =>
      cases N with
      | zero => omega
      | succ M =>
        have hf1 : ∀ x ∈ xs, flatD x = true := flatDs_mem (by simpa [flatD] using h1)
        have hd1 : ∀ x ∈ xs, dle d x = true := dles_mem (by simpa [dle] using h2)
        obtain ⟨hs1, hs2⟩ := hs
        obtain ⟨env', st', g1, e2, rfl, rfl⟩ := forD_inv (g := asg (callN P (M + 1)) (.name 2)) (b := exs (callN P (M + 1)) smB) (fun j env st => ∃ e2, env = [some (.d (.tup xs)), some (.d (.tup xs)), e2] ∧ st = []) (rangeL 0 xs.length) 0
          [some (.d (.tup xs)), some (.d (.tup xs)), none] [] ⟨none, rfl, rfl⟩ (by
            rintro i x env st hx ⟨e2, rfl, rfl⟩
            obtain ⟨hi, rfl⟩ := range_get hx
            have hi' : (0 + (i : Int)) = (i : Int) := by omega
            have hix : index (.d (.tup xs)) (.d (.int i)) [] = .ok (.d xs[i]) [] := index_tup (ixN_nat hi) (by simp [hi])
            have hc := ih xs[i] M [] (hf1 _ (List.getElem_mem hi)) (hd1 _ (List.getElem_mem hi)) (hs2 _ (List.getElem_mem hi)) (by omega)
            refine ⟨_, _, _, _, asg_name, .inl ?_, ⟨some (.d (.int (0 + i))), rfl, rfl⟩⟩
            rw [hi']
            simp only [exs_nil, exs_cons, ex_asg, ex_aug, ex_expr, ex_ret, ex_retN, ex_if, ex_while, ex_for, ex_brk, ex_cnt, ex_pass, ex_raise, ev_c, ev_v, ev_tup, ev_lst, ev_bin, ev_cmp, ev_cmp2, ev_and, ev_or, ev_not, ev_ite, ev_ix, ev_sl, ev_call, ev_bcall, ev_isi, ev_bm, evs_nil, evs_cons, evo_none, evo_some, tr_eq, asg_name, asg_tup, asg_sub, setAll_nil, setAll_cons, bind_ok, bind_exc, ofO_some, List.getElem?_cons_zero, List.getElem?_cons_succ, List.set_cons_zero, List.set_cons_succ, Option.map_some, ite_tt, ite_ff, if_T, if_F, add_int, sub_int, iadd_int, isub_int, lt_int, le_int, gt_int, ge_int, eq_int, ne_int, eq_str, ne_str, isin_chr, notin_chr, is_non, isnt_non, non_non, non_int, non_str, non_tup, non_bl, non_loc, tru_bl, tru_int, tru_non, len_str, len_tup, len_lst, int_int, tuple_tup, ty_int, ty_bl, ty_str, ty_tup, ty_non, opt_int, opt_none, Option.isSome_some, Bool.not_true, Bool.not_false, decide_true, decide_false, Bool.false_eq_true, hix, hc])
        have hf : fo (callN P (M + 1)) (.name 2) (.r1 (.bcall .len [.v 1])) smB [some (.d (.tup xs)), some (.d (.tup xs)), none] [] = .ok (.nx [some (.d (.tup xs)), some (.d (.tup xs)), e2]) [] := by
          rw [fo_d (evIt_r1 (n := xs.length) (st1 := []) (by simp only [exs_nil, exs_cons, ex_asg, ex_aug, ex_expr, ex_ret, ex_retN, ex_if, ex_while, ex_for, ex_brk, ex_cnt, ex_pass, ex_raise, ev_c, ev_v, ev_tup, ev_lst, ev_bin, ev_cmp, ev_cmp2, ev_and, ev_or, ev_not, ev_ite, ev_ix, ev_sl, ev_call, ev_bcall, ev_isi, ev_bm, evs_nil, evs_cons, evo_none, evo_some, tr_eq, asg_name, asg_tup, asg_sub, setAll_nil, setAll_cons, bind_ok, bind_exc, ofO_some, List.getElem?_cons_zero, List.getElem?_cons_succ, List.set_cons_zero, List.set_cons_succ, Option.map_some, ite_tt, ite_ff, if_T, if_F, add_int, sub_int, iadd_int, isub_int, lt_int, le_int, gt_int, ge_int, eq_int, ne_int, eq_str, ne_str, isin_chr, notin_chr, is_non, isnt_non, non_non, non_int, non_str, non_tup, non_bl, non_loc, tru_bl, tru_int, tru_non, len_str, len_tup, len_lst, int_int, tuple_tup, ty_int, ty_bl, ty_str, ty_tup, ty_non, opt_int, opt_none, Option.isSome_some, Bool.not_true, Bool.not_false, decide_true, decide_false, Bool.false_eq_true]) (rngOk_nat (Nat.lt_trans hs1 (by decide))))]
          exact g1
        have hne : ¬ ((xs.length : Int) = (xs.length : Int) → False) := fun h => h rfl
        simp only [runF, List.length_cons, List.length_nil, if_true, List.map_cons, List.map_nil, List.replicate, List.cons_append, List.nil_append, Nat.reduceAdd, Nat.reduceSub, F_law_same]
        simp only [exs_nil, exs_cons, ex_asg, ex_aug, ex_expr, ex_ret, ex_retN, ex_if, ex_while, ex_for, ex_brk, ex_cnt, ex_pass, ex_raise, ev_c, ev_v, ev_tup, ev_lst, ev_bin, ev_cmp, ev_cmp2, ev_and, ev_or, ev_not, ev_ite, ev_ix, ev_sl, ev_call, ev_bcall, ev_isi, ev_bm, evs_nil, evs_cons, evo_none, evo_some, tr_eq, asg_name, asg_tup, asg_sub, setAll_nil, setAll_cons, bind_ok, bind_exc, ofO_some, List.getElem?_cons_zero, List.getElem?_cons_succ, List.set_cons_zero, List.set_cons_succ, Option.map_some, ite_tt, ite_ff, if_T, if_F, add_int, sub_int, iadd_int, isub_int, lt_int, le_int, gt_int, ge_int, eq_int, ne_int, eq_str, ne_str, isin_chr, notin_chr, is_non, isnt_non, non_non, non_int, non_str, non_tup, non_bl, non_loc, tru_bl, tru_int, tru_non, len_str, len_tup, len_lst, int_int, tuple_tup, ty_int, ty_bl, ty_str, ty_tup, ty_non, opt_int, opt_none, Option.isSome_some, Bool.not_true, Bool.not_false, decide_true, decide_false, Bool.false_eq_true, hf]
end PX
/-! M00c: tokens_of and the fault of a text as calls; the pieces of k00. -/
namespace PX
open PI

section
variable {P : List Fn} {n : Nat} {t : List Nat} {st : Store}
theorem tok_while_ok (hP : Has P) {N : Nat} {ds' : List D} (ht : t.length < 900000) (k : Tk t 0 [] (.ok ds')) : ∃ env', wh (callN P (N + 1)) tokC tokB [some (.d (.str t)), some (.loc 0), some (.d (.int 0)), none] [.lst []] = .ok (.nx env') [.lst ds'] ∧ env'[1]? = some (some (.loc 0)) := by
  have hfu : fuel = 1000000 := rfl
  exact tok_loop hP (N := N) (t := t) (by omega) k (Nat.zero_le _) rfl none fuel (by omega) (by simp only [List.length_nil]; omega)
theorem tok_while_ex (hP : Has P) {N : Nat} {x : Exn} (ht : t.length < 900000) (k : Tk t 0 [] (.ex x)) : ∃ st', wh (callN P (N + 1)) tokC tokB [some (.d (.str t)), some (.loc 0), some (.d (.int 0)), none] [.lst []] = .exc x st' := by
  have hfu : fuel = 1000000 := rfl
  exact tok_loop hP (N := N) (t := t) (by omega) k (Nat.zero_le _) rfl none fuel (by omega) (by simp only [List.length_nil]; omega)
theorem tokens_ok (hP : Has P) {ds' : List D} (hn : 2 ≤ n) (ht : t.length < 900000) (k : Tk t 0 [] (.ok ds')) : callN P n 1 [.d (.str t)] st = .ok (.loc st.length) (st ++ [.lst ds']) := by
  obtain ⟨N, rfl⟩ : ∃ N, n = N + 1 + 1 := ⟨n - 2, by omega⟩
  obtain ⟨env', h1, h2⟩ := tok_while_ok hP (N := N) ht k
  have key : runF (callN P (N + 1)) F_tokens_of [.d (.str t)] [] = .ok (.loc 0) [.lst ds'] := by
    rw [F_tok]
    simp only [runF, List.length_cons, List.length_nil, if_true, List.map_cons, List.map_nil, List.replicate, List.cons_append, List.nil_append, Nat.reduceAdd, Nat.reduceSub]
    rw [exs_cons, ex_asg, ev_lst_nil]
    simp only [exs_nil, exs_cons, ex_asg, ex_aug, ex_expr, ex_ret, ex_retN, ex_if, ex_while, ex_for, ex_brk, ex_cnt, ex_pass, ex_raise, ev_c, ev_v, ev_tup, ev_lst, ev_bin, ev_cmp, ev_cmp2, ev_and, ev_or, ev_not, ev_ite, ev_ix, ev_sl, ev_call, ev_bcall, ev_isi, ev_bm, evs_nil, evs_cons, evo_none, evo_some, tr_eq, asg_name, asg_tup, asg_sub, setAll_nil, setAll_cons, bind_ok, bind_exc, ofO_some, List.getElem?_cons_zero, List.getElem?_cons_succ, List.set_cons_zero, List.set_cons_succ, Option.map_some, ite_tt, ite_ff, if_T, if_F, add_int, sub_int, iadd_int, isub_int, lt_int, le_int, gt_int, ge_int, eq_int, ne_int, eq_str, ne_str, isin_chr, notin_chr, is_non, isnt_non, non_non, non_int, non_str, non_tup, non_bl, non_loc, tru_bl, tru_int, tru_non, len_str, len_tup, len_lst, int_int, tuple_tup, ty_int, ty_bl, ty_str, ty_tup, ty_non, opt_int, opt_none, Option.isSome_some, Bool.not_true, Bool.not_false, decide_true, decide_false, Bool.false_eq_true, List.length_nil, List.nil_append, h1, h2]
  have := callN_l (st := st) (ds := [.str t]) (xs := ds') hP.tokens_of key rfl
  simp only [List.map_cons, List.map_nil] at this
  exact this
theorem tokens_ex (hP : Has P) {x : Exn} (hn : 2 ≤ n) (ht : t.length < 900000) (k : Tk t 0 [] (.ex x)) : callN P n 1 [.d (.str t)] st = .exc x st := by
  obtain ⟨N, rfl⟩ : ∃ N, n = N + 1 + 1 := ⟨n - 2, by omega⟩
  obtain ⟨st', h1⟩ := tok_while_ex hP (N := N) ht k
  have key : runF (callN P (N + 1)) F_tokens_of [.d (.str t)] [] = .exc x st' := by
    rw [F_tok]
    simp only [runF, List.length_cons, List.length_nil, if_true, List.map_cons, List.map_nil, List.replicate, List.cons_append, List.nil_append, Nat.reduceAdd, Nat.reduceSub]
    rw [exs_cons, ex_asg, ev_lst_nil]
    simp only [exs_nil, exs_cons, ex_asg, ex_aug, ex_expr, ex_ret, ex_retN, ex_if, ex_while, ex_for, ex_brk, ex_cnt, ex_pass, ex_raise, ev_c, ev_v, ev_tup, ev_lst, ev_bin, ev_cmp, ev_cmp2, ev_and, ev_or, ev_not, ev_ite, ev_ix, ev_sl, ev_call, ev_bcall, ev_isi, ev_bm, evs_nil, evs_cons, evo_none, evo_some, tr_eq, asg_name, asg_tup, asg_sub, setAll_nil, setAll_cons, bind_ok, bind_exc, ofO_some, List.getElem?_cons_zero, List.getElem?_cons_succ, List.set_cons_zero, List.set_cons_succ, Option.map_some, ite_tt, ite_ff, if_T, if_F, add_int, sub_int, iadd_int, isub_int, lt_int, le_int, gt_int, ge_int, eq_int, ne_int, eq_str, ne_str, isin_chr, notin_chr, is_non, isnt_non, non_non, non_int, non_str, non_tup, non_bl, non_loc, tru_bl, tru_int, tru_non, len_str, len_tup, len_lst, int_int, tuple_tup, ty_int, ty_bl, ty_str, ty_tup, ty_non, opt_int, opt_none, Option.isSome_some, Bool.not_true, Bool.not_false, decide_true, decide_false, Bool.false_eq_true, List.length_nil, List.nil_append, h1]
  have := callN_x (st := st) (ds := [.str t]) hP.tokens_of key
  simp only [List.map_cons, List.map_nil] at this
  exact this
theorem try_ok {cf : CF} {b : List S} {c : Nat} {h : Hd} {env env' : Env} {st st' : Store} (e : exs cf b env st = .ok (.nx env') st') : ex cf (.try_ b c h) env st = .ok (.nx env') st' := by
  rw [ex, e]
theorem try_ex {cf : CF} {b : List S} {c : Nat} {h : Hd} {env : Env} {st st' : Store} {x : Exn} {d : D} (e : exs cf b env st = .exc x st') (h1 : subCls x.c c = true) (h2 : hdRes h x = some d) : ex cf (.try_ b c h) env st = .ok (.rt (.d d)) st' := by
  rw [ex, e]
  show (if subCls x.c c = true then (match hdRes h x with | some d => R.ok (Fl.rt (.d d)) st' | none => R.bad) else _) = _
  rw [if_pos h1, h2]
theorem fault_ok (hP : Has P) {ds' : List D} (hn : 3 ≤ n) (ht : t.length < 900000) (k : Tk t 0 [] (.ok ds')) : callN P n 7 [.d (.str t)] st = .ok (.d .non) st := by
  obtain ⟨N, rfl⟩ : ∃ N, n = N + 1 := ⟨n - 1, by omega⟩
  have h1 := tokens_ok hP (n := N) (st := []) (by omega) ht k
  have key : runF (callN P N) F_law_fault_of [.d (.str t)] [] = .ok (.d .non) [.lst ds'] := by
    simp only [runF, List.length_cons, List.length_nil, if_true, List.map_cons, List.map_nil, List.replicate, List.cons_append, List.nil_append, Nat.reduceAdd, Nat.reduceSub, F_law_fault_of]
    rw [exs_cons, try_ok (env' := [some (.d (.str t)), none]) (st' := [.lst ds'])]
    · simp only [exs_nil, exs_cons, ex_asg, ex_aug, ex_expr, ex_ret, ex_retN, ex_if, ex_while, ex_for, ex_brk, ex_cnt, ex_pass, ex_raise, ev_c, ev_v, ev_tup, ev_lst, ev_bin, ev_cmp, ev_cmp2, ev_and, ev_or, ev_not, ev_ite, ev_ix, ev_sl, ev_call, ev_bcall, ev_isi, ev_bm, evs_nil, evs_cons, evo_none, evo_some, tr_eq, asg_name, asg_tup, asg_sub, setAll_nil, setAll_cons, bind_ok, bind_exc, ofO_some, List.getElem?_cons_zero, List.getElem?_cons_succ, List.set_cons_zero, List.set_cons_succ, Option.map_some, ite_tt, ite_ff, if_T, if_F, add_int, sub_int, iadd_int, isub_int, lt_int, le_int, gt_int, ge_int, eq_int, ne_int, eq_str, ne_str, isin_chr, notin_chr, is_non, isnt_non, non_non, non_int, non_str, non_tup, non_bl, non_loc, tru_bl, tru_int, tru_non, len_str, len_tup, len_lst, int_int, tuple_tup, ty_int, ty_bl, ty_str, ty_tup, ty_non, opt_int, opt_none, Option.isSome_some, Bool.not_true, Bool.not_false, decide_true, decide_false, Bool.false_eq_true]
    · simp only [exs_nil, exs_cons, ex_asg, ex_aug, ex_expr, ex_ret, ex_retN, ex_if, ex_while, ex_for, ex_brk, ex_cnt, ex_pass, ex_raise, ev_c, ev_v, ev_tup, ev_lst, ev_bin, ev_cmp, ev_cmp2, ev_and, ev_or, ev_not, ev_ite, ev_ix, ev_sl, ev_call, ev_bcall, ev_isi, ev_bm, evs_nil, evs_cons, evo_none, evo_some, tr_eq, asg_name, asg_tup, asg_sub, setAll_nil, setAll_cons, bind_ok, bind_exc, ofO_some, List.getElem?_cons_zero, List.getElem?_cons_succ, List.set_cons_zero, List.set_cons_succ, Option.map_some, ite_tt, ite_ff, if_T, if_F, add_int, sub_int, iadd_int, isub_int, lt_int, le_int, gt_int, ge_int, eq_int, ne_int, eq_str, ne_str, isin_chr, notin_chr, is_non, isnt_non, non_non, non_int, non_str, non_tup, non_bl, non_loc, tru_bl, tru_int, tru_non, len_str, len_tup, len_lst, int_int, tuple_tup, ty_int, ty_bl, ty_str, ty_tup, ty_non, opt_int, opt_none, Option.isSome_some, Bool.not_true, Bool.not_false, decide_true, decide_false, Bool.false_eq_true, h1, List.nil_append]
  have := callN_d (st := st) (ds := [.str t]) hP.law_fault_of key
  simp only [List.map_cons, List.map_nil] at this
  exact this
theorem fault_ex (hP : Has P) {why : List Nat} {p : Int} (hn : 3 ≤ n) (ht : t.length < 900000) (k : Tk t 0 [] (.ex ⟨1, [.str why, .int p]⟩)) : callN P n 7 [.d (.str t)] st = .ok (.d (.tup [.int p, .str why])) st := by
  obtain ⟨N, rfl⟩ : ∃ N, n = N + 1 := ⟨n - 1, by omega⟩
  have h1 := tokens_ex hP (n := N) (st := []) (by omega) ht k
  have key : runF (callN P N) F_law_fault_of [.d (.str t)] [] = .ok (.d (.tup [.int p, .str why])) [] := by
    simp only [runF, List.length_cons, List.length_nil, if_true, List.map_cons, List.map_nil, List.replicate, List.cons_append, List.nil_append, Nat.reduceAdd, Nat.reduceSub, F_law_fault_of]
    rw [exs_cons, try_ex (x := ⟨1, [.str why, .int p]⟩) (st' := []) (d := .tup [.int p, .str why]) _ rfl rfl]
    · simp only [exs_nil, exs_cons, ex_asg, ex_aug, ex_expr, ex_ret, ex_retN, ex_if, ex_while, ex_for, ex_brk, ex_cnt, ex_pass, ex_raise, ev_c, ev_v, ev_tup, ev_lst, ev_bin, ev_cmp, ev_cmp2, ev_and, ev_or, ev_not, ev_ite, ev_ix, ev_sl, ev_call, ev_bcall, ev_isi, ev_bm, evs_nil, evs_cons, evo_none, evo_some, tr_eq, asg_name, asg_tup, asg_sub, setAll_nil, setAll_cons, bind_ok, bind_exc, ofO_some, List.getElem?_cons_zero, List.getElem?_cons_succ, List.set_cons_zero, List.set_cons_succ, Option.map_some, ite_tt, ite_ff, if_T, if_F, add_int, sub_int, iadd_int, isub_int, lt_int, le_int, gt_int, ge_int, eq_int, ne_int, eq_str, ne_str, isin_chr, notin_chr, is_non, isnt_non, non_non, non_int, non_str, non_tup, non_bl, non_loc, tru_bl, tru_int, tru_non, len_str, len_tup, len_lst, int_int, tuple_tup, ty_int, ty_bl, ty_str, ty_tup, ty_non, opt_int, opt_none, Option.isSome_some, Bool.not_true, Bool.not_false, decide_true, decide_false, Bool.false_eq_true]
    · simp only [exs_nil, exs_cons, ex_asg, ex_aug, ex_expr, ex_ret, ex_retN, ex_if, ex_while, ex_for, ex_brk, ex_cnt, ex_pass, ex_raise, ev_c, ev_v, ev_tup, ev_lst, ev_bin, ev_cmp, ev_cmp2, ev_and, ev_or, ev_not, ev_ite, ev_ix, ev_sl, ev_call, ev_bcall, ev_isi, ev_bm, evs_nil, evs_cons, evo_none, evo_some, tr_eq, asg_name, asg_tup, asg_sub, setAll_nil, setAll_cons, bind_ok, bind_exc, ofO_some, List.getElem?_cons_zero, List.getElem?_cons_succ, List.set_cons_zero, List.set_cons_succ, Option.map_some, ite_tt, ite_ff, if_T, if_F, add_int, sub_int, iadd_int, isub_int, lt_int, le_int, gt_int, ge_int, eq_int, ne_int, eq_str, ne_str, isin_chr, notin_chr, is_non, isnt_non, non_non, non_int, non_str, non_tup, non_bl, non_loc, tru_bl, tru_int, tru_non, len_str, len_tup, len_lst, int_int, tuple_tup, ty_int, ty_bl, ty_str, ty_tup, ty_non, opt_int, opt_none, Option.isSome_some, Bool.not_true, Bool.not_false, decide_true, decide_false, Bool.false_eq_true, h1]
  have := callN_d (st := st) (ds := [.str t]) hP.law_fault_of key
  simp only [List.map_cons, List.map_nil] at this
  exact this
end

/-! ### the pieces -/
def PL : List (List Nat) := [[112, 114, 111, 99], [120, 49], [67, 111, 110, 115], [97, 66, 99, 68, 101, 70, 103, 72, 105, 49], [45, 62], [33, 61], [40], [41], [123], [125], [44], [59], [61], [46], [42]]
def GL : List (List Nat) := [[32], [10], [32, 32], [32, 35, 32, 122, 45, 62, 36, 32, 49, 10]]
/-- the wrong ones, with what is wrong -/
def BL : List (List Nat × List Nat) := [([97, 98, 99, 100, 101, 102, 103, 104, 105, 106, 107], [116, 111, 111, 32, 108, 111, 110, 103]), ([49], [117, 110, 107, 110, 111, 119, 110, 32, 115, 105, 103, 110]), ([33], [117, 110, 107, 110, 111, 119, 110, 32, 115, 105, 103, 110]),
  ([45], [117, 110, 107, 110, 111, 119, 110, 32, 115, 105, 103, 110]), ([62], [117, 110, 107, 110, 111, 119, 110, 32, 115, 105, 103, 110]), ([124], [117, 110, 107, 110, 111, 119, 110, 32, 115, 105, 103, 110])]
def textOf : List (List Nat × List Nat) → List Nat
  | [] => []
  | (a, b) :: r => a ++ (b ++ textOf r)
def duesOf : Nat → List (List Nat × List Nat) → List D
  | _, [] => []
  | p, (a, b) :: r => .tup [.str a, .int p] :: duesOf (p + a.length + b.length) r
theorem tk_gap {g rest : List Nat} {p : Nat} {ds : List D} {res : LR} (hg : g ∈ GL) (k : Tk rest (p + g.length) ds res) : Tk (g ++ rest) p ds res := by
  simp only [GL, List.mem_cons, List.not_mem_nil, or_false] at hg
  rcases hg with rfl | rfl | rfl | rfl
  · exact .blank (.inl rfl) k
  · exact .blank (.inr rfl) k
  · exact .blank (.inl rfl) (.blank (.inl rfl) k)
  · refine .blank (.inl rfl) (.com ?_)
    exact .blank (.inr rfl) k
theorem tk_one {x p : Nat} {xs r : List Nat} {ds : List D} {res : LR} (h1 : ¬ (x = 32 ∨ x = 10)) (h2 : x ≠ 35) (h : lexK ((x :: xs) ++ r) = .inl (xs.length + 1)) (k : Tk r (p + (xs.length + 1)) (ds ++ [.tup [.str (x :: xs), .int p]]) res) : Tk ((x :: xs) ++ r) p ds res := by
  refine .tok h1 h2 h (Nat.succ_pos _) ?_
  have e1 : (x :: (xs.append r)).drop (xs.length + 1) = r := by simp
  have e2 : (x :: (xs.append r)).take (xs.length + 1) = x :: xs := by simp
  rw [e1, e2]
  exact k
theorem tk_piece {a r : List Nat} {c p : Nat} {ds : List D} {res : LR} (ha : a ∈ PL) (hc : c = 32 ∨ c = 10) (k : Tk (c :: r) (p + a.length) (ds ++ [.tup [.str a, .int p]]) res) : Tk (a ++ c :: r) p ds res := by
  simp only [PL, List.mem_cons, List.not_mem_nil, or_false] at ha
  rcases hc with rfl | rfl <;> rcases ha with rfl | rfl | rfl | rfl | rfl | rfl | rfl | rfl | rfl | rfl | rfl | rfl | rfl | rfl | rfl <;>
    exact tk_one (by decide) (by decide) rfl k
theorem gap_head {g : List Nat} (hg : g ∈ GL) : ∃ c g', g = c :: g' ∧ (c = 32 ∨ c = 10) := by
  simp only [GL, List.mem_cons, List.not_mem_nil, or_false] at hg
  rcases hg with rfl | rfl | rfl | rfl
  · exact ⟨_, _, rfl, .inl rfl⟩
  · exact ⟨_, _, rfl, .inr rfl⟩
  · exact ⟨_, _, rfl, .inl rfl⟩
  · exact ⟨_, _, rfl, .inl rfl⟩
theorem tk_all : ∀ {ps : List (List Nat × List Nat)} {tail : List Nat} {p : Nat} {ds : List D} {res : LR}, (∀ q ∈ ps, q.1 ∈ PL ∧ q.2 ∈ GL) → Tk tail (p + (textOf ps).length) (ds ++ duesOf p ps) res → Tk (textOf ps ++ tail) p ds res
  | [], tail, p, ds, res, _, k => by simpa [textOf, duesOf] using k
  | (a, b) :: r, tail, p, ds, res, h, k => by
    obtain ⟨h1, h2⟩ := h (a, b) (List.mem_cons_self ..)
    obtain ⟨c, g', rfl, hc⟩ := gap_head h2
    have e : textOf ((a, c :: g') :: r) ++ tail = a ++ c :: (g' ++ (textOf r ++ tail)) := by simp [textOf]
    rw [e]
    refine tk_piece h1 hc ?_
    refine tk_gap (g := c :: g') h2 ?_
    refine tk_all (fun q hq => h q (List.mem_cons_of_mem _ hq)) ?_
    have e2 : p + (textOf ((a, c :: g') :: r)).length = p + a.length + (c :: g').length + (textOf r).length := by
      simp [textOf]; omega
    have e3 : ds ++ duesOf p ((a, c :: g') :: r) = ds ++ [.tup [.str a, .int p]] ++ duesOf (p + a.length + (c :: g').length) r := by
      simp [duesOf]
    rw [e2, e3] at k
    exact k
theorem text_snoc : ∀ (ps : List (List Nat × List Nat)) (a b : List Nat), textOf (ps ++ [(a, b)]) = textOf ps ++ a ++ b
  | [], a, b => by simp [textOf]
  | (x, y) :: r, a, b => by
    rw [List.cons_append, textOf, textOf, text_snoc r a b]
    simp
theorem dues_snoc : ∀ (ps : List (List Nat × List Nat)) (a b : List Nat) (p : Nat), duesOf p (ps ++ [(a, b)]) = duesOf p ps ++ [.tup [.str a, .int (p + (textOf ps).length : Nat)]]
  | [], a, b, p => by simp [duesOf, textOf]
  | (x, y) :: r, a, b, p => by
    rw [List.cons_append, duesOf, duesOf, dues_snoc r a b, textOf]
    have e : p + x.length + y.length + (textOf r).length = p + (x ++ (y ++ textOf r)).length := by simp; omega
    rw [e]
    rfl
theorem dues_len : ∀ (ps : List (List Nat × List Nat)) (p : Nat), (duesOf p ps).length = ps.length
  | [], _ => rfl
  | (x, y) :: r, p => by rw [duesOf, List.length_cons, List.length_cons, dues_len r]
theorem dues_mem : ∀ {ps : List (List Nat × List Nat)} {p : Nat} {x : D}, x ∈ duesOf p ps → ∃ (a : List Nat) (i : Int), x = .tup [.str a, .int i]
  | [], _, _, h => by cases h
  | (x, y) :: r, p, z, h => by
    rw [duesOf] at h
    rcases List.mem_cons.mp h with rfl | h
    · exact ⟨_, _, rfl⟩
    · exact dues_mem h
theorem flatDs_of : ∀ {xs : List D}, (∀ x ∈ xs, flatD x = true) → flatDs xs = true
  | [], _ => rfl
  | x :: xs, h => by
    rw [flatDs, h x (List.mem_cons_self ..), flatDs_of fun y hy => h y (List.mem_cons_of_mem _ hy)]
    rfl
theorem dles_of : ∀ {xs : List D} {n : Nat}, (∀ x ∈ xs, dle n x = true) → dles n xs = true
  | [], _, _ => by cases ‹Nat› <;> rfl
  | x :: xs, n, h => by
    rw [dles, h x (List.mem_cons_self ..), dles_of fun y hy => h y (List.mem_cons_of_mem _ hy)]
    rfl
/-- the same list of tokens -/
theorem same_dues {P : List Fn} (hP : Has P) {n : Nat} {st : Store} {ps : List (List Nat × List Nat)} {p : Nat} (hn : 3 ≤ n) (hl : ps.length < 1000) : callN P n 6 [.d (.tup (duesOf p ps)), .d (.tup (duesOf p ps))] st = .ok (.d (.bl true)) st := by
  obtain ⟨N, rfl⟩ : ∃ N, n = N + 1 := ⟨n - 1, by omega⟩
  refine same_call hP 2 _ N st ?_ ?_ ?_ (by omega)
  · rw [flatD]
    refine flatDs_of fun x hx => ?_
    obtain ⟨a, i, rfl⟩ := dues_mem hx
    rfl
  · rw [dle]
    refine dles_of fun x hx => ?_
    obtain ⟨a, i, rfl⟩ := dues_mem hx
    rfl
  · refine ⟨by rw [dues_len]; omega, fun x hx => ?_⟩
    obtain ⟨a, i, rfl⟩ := dues_mem hx
    refine ⟨by simp, fun y hy => trivial⟩
theorem tk_bad {q : List Nat × List Nat} {p : Nat} {ds : List D} (h : q ∈ BL) : Tk (q.1 ++ [32, 48, 32, 38]) p ds (.ex ⟨1, [.str q.2, .int p]⟩) := by
  simp only [BL, List.mem_cons, List.not_mem_nil, or_false] at h
  rcases h with rfl | rfl | rfl | rfl | rfl | rfl <;> exact .bad (by decide) (by decide) rfl
theorem tk_rem {q : List Nat × List Nat} {p : Nat} {ds : List D} (h : q ∈ BL) : Tk ([35, 32] ++ q.1) p ds (.ok ds) := by
  simp only [BL, List.mem_cons, List.not_mem_nil, or_false] at h
  rcases h with rfl | rfl | rfl | rfl | rfl | rfl <;> exact .com .nil
theorem tk_fix : Tk [120, 46, 110, 101, 120, 116, 61, 121, 59] 0 [] (.ok [.tup [.str [120], .int 0], .tup [.str [46], .int 1], .tup [.str [110, 101, 120, 116], .int 2], .tup [.str [61], .int 6], .tup [.str [121], .int 7], .tup [.str [59], .int 8]]) := by
  refine .tok (k := 1) (by decide) (by decide) rfl (by decide) ?_
  refine .tok (k := 1) (by decide) (by decide) rfl (by decide) ?_
  refine .tok (k := 4) (by decide) (by decide) rfl (by decide) ?_
  refine .tok (k := 1) (by decide) (by decide) rfl (by decide) ?_
  refine .tok (k := 1) (by decide) (by decide) rfl (by decide) ?_
  refine .tok (k := 1) (by decide) (by decide) rfl (by decide) ?_
  exact .nil
end PX
/-! M00d: the law k00. -/
namespace PX
open PI

def PLD : List D := PL.map D.str
def GLD : List D := GL.map D.str
def BLD : List D := BL.map fun q => .tup [.str q.1, .str q.2]
abbrev St (a : Int) (is : List Int) (due : List D) (junk : Store) : Store := .lstV [.loc 1, .d (.int a)] :: .lst (is.map .int) :: .lst PLD :: .lst due :: junk
section
variable {P : List Fn} {n : Nat} {a : Int} {is : List Int} {due : List D} {junk : Store}
theorem draw_St (hP : Has P) {m : Int} (hn : 1 ≤ n) (ha : 0 ≤ a) (hm : 0 < m) : ∃ r : Nat, (r : Int) < m ∧ callN P n 5 [.loc 0, .d (.int m)] (St a is due junk) = .ok (.d (.int r)) (St (a + 1) is due junk) := by
  obtain ⟨N, rfl⟩ : ∃ N, n = N + 1 := ⟨n - 1, by omega⟩
  obtain ⟨r, h1, h2, h3⟩ := draw_call hP (N := N) (st := St a is due junk) (b := 0) (dg := 1) (a := a) (m := m) (is := is) rfl rfl (by decide) ha hm
  refine ⟨r.toNat, by omega, ?_⟩
  rw [show ((r.toNat : Nat) : Int) = r by omega]
  rw [h3, List.set_cons_zero]
theorem St_app {o : Obj} : St a is due junk ++ [o] = St a is due (junk ++ [o]) := (rfl)
theorem St_len : (St a is due junk).length = junk.length + 4 := (rfl)
theorem St_at {o : Obj} : (St a is due (junk ++ [o]))[junk.length + 4]? = some o := by
  show (junk ++ [o])[junk.length]? = some o
  simp
theorem St_due {xs : List D} : (St a is due junk).set 3 (.lst xs) = St a is xs junk := (rfl)
end

abbrev gapE : E := .lst [.c (.str [32]), .c (.str [10]), .c (.str [32, 32]), .c (.str [32, 35, 32, 122, 45, 62, 36, 32, 49, 10])]
abbrev lB : List S := [.asg (.name 7) (.ix gapE (.call 5 [.v 1, .c (.int 4)])), .asg (.name 8) (.ix (.v 2) (.call 5 [.v 1, .bcall .len [.v 2]])), .expr (.bm .append (.v 4) [.tup [.v 8, .bcall .len [.v 3]]]), .asg (.name 3) (.bin .add (.bin .add (.v 3) (.v 8)) (.v 7))]
abbrev pcE : E := .lst [.c (.str [112, 114, 111, 99]), .c (.str [120, 49]), .c (.str [67, 111, 110, 115]), .c (.str [97, 66, 99, 68, 101, 70, 103, 72, 105, 49]), .c (.str [45, 62]), .c (.str [33, 61]), .c (.str [40]), .c (.str [41]), .c (.str [123]), .c (.str [125]), .c (.str [44]), .c (.str [59]), .c (.str [61]), .c (.str [46]), .c (.str [42])]
abbrev bdE : E := .lst [.tup [.c (.str [97, 98, 99, 100, 101, 102, 103, 104, 105, 106, 107]), .c (.str [116, 111, 111, 32, 108, 111, 110, 103])], .tup [.c (.str [49]), .c (.str [117, 110, 107, 110, 111, 119, 110, 32, 115, 105, 103, 110])], .tup [.c (.str [33]), .c (.str [117, 110, 107, 110, 111, 119, 110, 32, 115, 105, 103, 110])],
  .tup [.c (.str [45]), .c (.str [117, 110, 107, 110, 111, 119, 110, 32, 115, 105, 103, 110])], .tup [.c (.str [62]), .c (.str [117, 110, 107, 110, 111, 119, 110, 32, 115, 105, 103, 110])], .tup [.c (.str [124]), .c (.str [117, 110, 107, 110, 111, 119, 110, 32, 115, 105, 103, 110])]]
abbrev fxE : E := .tup [.tup [.c (.str [120]), .c (.int 0)], .tup [.c (.str [46]), .c (.int 1)], .tup [.c (.str [110, 101, 120, 116]), .c (.int 2)], .tup [.c (.str [61]), .c (.int 6)], .tup [.c (.str [121]), .c (.int 7)], .tup [.c (.str [59]), .c (.int 8)]]
def fxD : List D := [.tup [.str [120], .int 0], .tup [.str [46], .int 1], .tup [.str [110, 101, 120, 116], .int 2], .tup [.str [61], .int 6], .tup [.str [121], .int 7], .tup [.str [59], .int 8]]
abbrev retF : List S := [.ret (.c (.bl false))]
theorem F_lw : F_law = ⟨1, 10, [.asg (.name 1) (.call 2 [.v 0, .c (.int 0), .c (.int 62)]), .asg (.name 2) pcE, .asg (.name 3) (.c (.str [])), .asg (.name 4) (.lst []), .for_ (.name 5) (.r1 (.call 5 [.v 1, .c (.int 31)])) lB,
  .if_ (.or (.not (.call 6 [.bcall .tuple [.call 1 [.v 3]], .bcall .tuple [.v 4]])) (.cmp .isnt (.call 7 [.v 3]) (.c .non))) retF [],
  .if_ (.not (.call 6 [.bcall .tuple [.call 1 [.c (.str [120, 46, 110, 101, 120, 116, 61, 121, 59])]], fxE])) retF [],
  .asg (.name 6) bdE, .asg (.tup [8, 9]) (.ix (.v 6) (.call 5 [.v 1, .c (.int 6)])),
  .if_ (.not (.call 6 [.call 7 [.bin .add (.bin .add (.v 3) (.v 8)) (.c (.str [32, 48, 32, 38]))], .tup [.bcall .len [.v 3], .v 9]])) retF [],
  .ret (.cmp .is (.call 7 [.bin .add (.bin .add (.v 3) (.c (.str [35, 32]))) (.v 8)]) (.c .non))]⟩ := rfl
section
variable {cf : CF} {env : Env} {st : Store}
theorem ev_pc : ev cf pcE env st = .ok (.loc st.length) (st ++ [.lst PLD]) := by
  simp only [exs_nil, exs_cons, ex_asg, ex_aug, ex_expr, ex_ret, ex_retN, ex_if, ex_while, ex_for, ex_brk, ex_cnt, ex_pass, ex_raise, ev_c, ev_v, ev_tup, ev_lst, ev_bin, ev_cmp, ev_cmp2, ev_and, ev_or, ev_not, ev_ite, ev_ix, ev_sl, ev_call, ev_bcall, ev_isi, ev_bm, evs_nil, evs_cons, evo_none, evo_some, tr_eq, asg_name, asg_tup, asg_sub, setAll_nil, setAll_cons, bind_ok, bind_exc, ofO_some, List.getElem?_cons_zero, List.getElem?_cons_succ, List.set_cons_zero, List.set_cons_succ, Option.map_some, ite_tt, ite_ff, if_T, if_F, add_int, sub_int, iadd_int, isub_int, lt_int, le_int, gt_int, ge_int, eq_int, ne_int, eq_str, ne_str, isin_chr, notin_chr, is_non, isnt_non, non_non, non_int, non_str, non_tup, non_bl, non_loc, tru_bl, tru_int, tru_non, len_str, len_tup, len_lst, int_int, tuple_tup, ty_int, ty_bl, ty_str, ty_tup, ty_non, opt_int, opt_none, Option.isSome_some, Bool.not_true, Bool.not_false, decide_true, decide_false, Bool.false_eq_true, if_pos (show 15 ≤ big by decide), List.length_cons, List.length_nil, Nat.reduceAdd]
  rfl
theorem ev_gap : ev cf gapE env st = .ok (.loc st.length) (st ++ [.lst GLD]) := by
  simp only [exs_nil, exs_cons, ex_asg, ex_aug, ex_expr, ex_ret, ex_retN, ex_if, ex_while, ex_for, ex_brk, ex_cnt, ex_pass, ex_raise, ev_c, ev_v, ev_tup, ev_lst, ev_bin, ev_cmp, ev_cmp2, ev_and, ev_or, ev_not, ev_ite, ev_ix, ev_sl, ev_call, ev_bcall, ev_isi, ev_bm, evs_nil, evs_cons, evo_none, evo_some, tr_eq, asg_name, asg_tup, asg_sub, setAll_nil, setAll_cons, bind_ok, bind_exc, ofO_some, List.getElem?_cons_zero, List.getElem?_cons_succ, List.set_cons_zero, List.set_cons_succ, Option.map_some, ite_tt, ite_ff, if_T, if_F, add_int, sub_int, iadd_int, isub_int, lt_int, le_int, gt_int, ge_int, eq_int, ne_int, eq_str, ne_str, isin_chr, notin_chr, is_non, isnt_non, non_non, non_int, non_str, non_tup, non_bl, non_loc, tru_bl, tru_int, tru_non, len_str, len_tup, len_lst, int_int, tuple_tup, ty_int, ty_bl, ty_str, ty_tup, ty_non, opt_int, opt_none, Option.isSome_some, Bool.not_true, Bool.not_false, decide_true, decide_false, Bool.false_eq_true, if_pos (show 4 ≤ big by decide), List.length_cons, List.length_nil, Nat.reduceAdd]
  rfl
theorem ev_bd : ev cf bdE env st = .ok (.loc st.length) (st ++ [.lst BLD]) := by
  simp only [exs_nil, exs_cons, ex_asg, ex_aug, ex_expr, ex_ret, ex_retN, ex_if, ex_while, ex_for, ex_brk, ex_cnt, ex_pass, ex_raise, ev_c, ev_v, ev_tup, ev_lst, ev_bin, ev_cmp, ev_cmp2, ev_and, ev_or, ev_not, ev_ite, ev_ix, ev_sl, ev_call, ev_bcall, ev_isi, ev_bm, evs_nil, evs_cons, evo_none, evo_some, tr_eq, asg_name, asg_tup, asg_sub, setAll_nil, setAll_cons, bind_ok, bind_exc, ofO_some, List.getElem?_cons_zero, List.getElem?_cons_succ, List.set_cons_zero, List.set_cons_succ, Option.map_some, ite_tt, ite_ff, if_T, if_F, add_int, sub_int, iadd_int, isub_int, lt_int, le_int, gt_int, ge_int, eq_int, ne_int, eq_str, ne_str, isin_chr, notin_chr, is_non, isnt_non, non_non, non_int, non_str, non_tup, non_bl, non_loc, tru_bl, tru_int, tru_non, len_str, len_tup, len_lst, int_int, tuple_tup, ty_int, ty_bl, ty_str, ty_tup, ty_non, opt_int, opt_none, Option.isSome_some, Bool.not_true, Bool.not_false, decide_true, decide_false, Bool.false_eq_true, List.mapM_cons, List.mapM_nil, Val.data?, Option.pure_def, Option.bind_eq_bind, Option.bind_some, List.length_cons, List.length_nil, Nat.reduceAdd, datas, if_pos (show 2 ≤ big by decide), if_pos (show 6 ≤ big by decide)]
  rfl
theorem ev_fx : ev cf fxE env st = .ok (.d (.tup fxD)) st := by
  simp only [exs_nil, exs_cons, ex_asg, ex_aug, ex_expr, ex_ret, ex_retN, ex_if, ex_while, ex_for, ex_brk, ex_cnt, ex_pass, ex_raise, ev_c, ev_v, ev_tup, ev_lst, ev_bin, ev_cmp, ev_cmp2, ev_and, ev_or, ev_not, ev_ite, ev_ix, ev_sl, ev_call, ev_bcall, ev_isi, ev_bm, evs_nil, evs_cons, evo_none, evo_some, tr_eq, asg_name, asg_tup, asg_sub, setAll_nil, setAll_cons, bind_ok, bind_exc, ofO_some, List.getElem?_cons_zero, List.getElem?_cons_succ, List.set_cons_zero, List.set_cons_succ, Option.map_some, ite_tt, ite_ff, if_T, if_F, add_int, sub_int, iadd_int, isub_int, lt_int, le_int, gt_int, ge_int, eq_int, ne_int, eq_str, ne_str, isin_chr, notin_chr, is_non, isnt_non, non_non, non_int, non_str, non_tup, non_bl, non_loc, tru_bl, tru_int, tru_non, len_str, len_tup, len_lst, int_int, tuple_tup, ty_int, ty_bl, ty_str, ty_tup, ty_non, opt_int, opt_none, Option.isSome_some, Bool.not_true, Bool.not_false, decide_true, decide_false, Bool.false_eq_true, List.mapM_cons, List.mapM_nil, Val.data?, Option.pure_def, Option.bind_eq_bind, Option.bind_some, List.length_cons, List.length_nil, Nat.reduceAdd, datas, if_pos (show 2 ≤ big by decide), if_pos (show 6 ≤ big by decide)]
  rfl
end
/-- the state of the loop -/
def LI (s : D) (is : List Int) (j : Nat) (env : Env) (st : Store) : Prop := ∃ (e5 e7 e8 : Option Val) (a : Int) (ps : List (List Nat × List Nat)) (junk : Store), env = [some (.d s), some (.loc 0), some (.loc 2), some (.d (.str (textOf ps))), some (.loc 3), e5, none, e7, e8, none] ∧
  st = St a is (duesOf 0 ps) junk ∧ 0 ≤ a ∧ ps.length = j ∧ (textOf ps).length ≤ 20 * j ∧ ∀ q ∈ ps, q.1 ∈ PL ∧ q.2 ∈ GL
theorem pl_len : ∀ x ∈ PL, x.length ≤ 10 := by decide
theorem gl_len : ∀ x ∈ GL, x.length ≤ 10 := by decide
section
variable {P : List Fn} {n : Nat}
theorem l_turn (hP : Has P) (hn : 1 ≤ n) {s : D} {is : List Int} {j : Nat} {k : Val} {env : Env} {st : Store} (hj : j < 31) (h : LI s is j env st) : ∃ env2 st2, exs (callN P n) lB (env.set 5 (some k)) st = .ok (.nx env2) st2 ∧ LI s is (j + 1) env2 st2 := by
  obtain ⟨e5, e7, e8, a, ps, junk, rfl, rfl, ha, hl, ht, hps⟩ := h
  obtain ⟨r1, hr1, d1⟩ := draw_St hP (n := n) (a := a) (is := is) (due := duesOf 0 ps) (junk := junk ++ [.lst GLD]) (m := 4) hn ha (by decide)
  obtain ⟨r2, hr2, d2⟩ := draw_St hP (n := n) (a := a + 1) (is := is) (due := duesOf 0 ps) (junk := junk ++ [.lst GLD]) (m := 15) hn (by omega) (by decide)
  have hg : r1 < GL.length := by show r1 < 4; omega
  have hp : r2 < PL.length := by show r2 < 15; omega
  have i1 : index (.loc (junk.length + 4)) (.d (.int r1)) (St (a + 1) is (duesOf 0 ps) (junk ++ [.lst GLD])) = .ok (.d (.str GL[r1])) (St (a + 1) is (duesOf 0 ps) (junk ++ [.lst GLD])) := by
    refine index_loc St_at (ixN_nat (by show r1 < (GL.map D.str).length; rw [List.length_map]; exact hg)) ?_
    show (GL.map D.str)[r1]? = _
    simp [hg]
  have l2 : PI.bcall .len [.loc 2] (St (a + 1) is (duesOf 0 ps) (junk ++ [.lst GLD])) = .ok (.d (.int 15)) (St (a + 1) is (duesOf 0 ps) (junk ++ [.lst GLD])) := len_loc (l := 2) (xs := PLD) rfl
  have i2 : index (.loc 2) (.d (.int r2)) (St (a + 1 + 1) is (duesOf 0 ps) (junk ++ [.lst GLD])) = .ok (.d (.str PL[r2])) (St (a + 1 + 1) is (duesOf 0 ps) (junk ++ [.lst GLD])) := by
    refine index_loc (l := 2) (xs := PLD) rfl (ixN_nat (by show r2 < (PL.map D.str).length; rw [List.length_map]; exact hp)) ?_
    show (PL.map D.str)[r2]? = _
    simp [hp]
  have q1 := pl_len PL[r2] (List.getElem_mem hp)
  have q2 := gl_len GL[r1] (List.getElem_mem hg)
  have ap : bmeth .append (.loc 3) [.d (.tup [.str PL[r2], .int (textOf ps).length])] (St (a + 1 + 1) is (duesOf 0 ps) (junk ++ [.lst GLD])) = .ok (.d .non) (St (a + 1 + 1) is (duesOf 0 (ps ++ [(PL[r2], GL[r1])])) (junk ++ [.lst GLD])) := by
    rw [app_data (l := 3) (xs := duesOf 0 ps) rfl (by rw [dues_len]; have : big = 16777216 := rfl; omega), St_due, dues_snoc, Nat.zero_add]
  have hb : big = 16777216 := rfl
  have s1 : (textOf ps).length + (PL[r2]).length ≤ big := by omega
  have s2 : (textOf ps ++ PL[r2]).length + (GL[r1]).length ≤ big := by rw [List.length_append]; omega
  refine ⟨[some (.d s), some (.loc 0), some (.loc 2), some (.d (.str (textOf (ps ++ [(PL[r2], GL[r1])])))), some (.loc 3), some k, none, some (.d (.str GL[r1])), some (.d (.str PL[r2])), none], St (a + 1 + 1) is (duesOf 0 (ps ++ [(PL[r2], GL[r1])])) (junk ++ [.lst GLD]), ?_,
    _, _, _, _, _, _, rfl, rfl, by omega, by rw [List.length_append, hl]; rfl, by rw [text_snoc, List.length_append, List.length_append]; omega, fun q hq => ?_⟩
  · rw [text_snoc]
    rw [exs_cons, ex_asg, ev_ix, ev_gap, bind_ok, St_len, St_app]
    simp only [exs_nil, exs_cons, ex_asg, ex_aug, ex_expr, ex_ret, ex_retN, ex_if, ex_while, ex_for, ex_brk, ex_cnt, ex_pass, ex_raise, ev_c, ev_v, ev_tup, ev_lst, ev_bin, ev_cmp, ev_cmp2, ev_and, ev_or, ev_not, ev_ite, ev_ix, ev_sl, ev_call, ev_bcall, ev_isi, ev_bm, evs_nil, evs_cons, evo_none, evo_some, tr_eq, asg_name, asg_tup, asg_sub, setAll_nil, setAll_cons, bind_ok, bind_exc, ofO_some, List.getElem?_cons_zero, List.getElem?_cons_succ, List.set_cons_zero, List.set_cons_succ, Option.map_some, ite_tt, ite_ff, if_T, if_F, add_int, sub_int, iadd_int, isub_int, lt_int, le_int, gt_int, ge_int, eq_int, ne_int, eq_str, ne_str, isin_chr, notin_chr, is_non, isnt_non, non_non, non_int, non_str, non_tup, non_bl, non_loc, tru_bl, tru_int, tru_non, len_str, len_tup, len_lst, int_int, tuple_tup, ty_int, ty_bl, ty_str, ty_tup, ty_non, opt_int, opt_none, Option.isSome_some, Bool.not_true, Bool.not_false, decide_true, decide_false, Bool.false_eq_true, List.mapM_cons, List.mapM_nil, Val.data?, Option.pure_def, Option.bind_eq_bind, Option.bind_some, List.length_cons, List.length_nil, Nat.reduceAdd, datas, d1, i1, l2, d2, i2, recv_loc (l := 3) (st := St (a + 1 + 1) is (duesOf 0 ps) (junk ++ [.lst GLD])) (xs := duesOf 0 ps) rfl, if_pos (show 2 ≤ big by decide), ap, add_str s1, add_str s2]
  · rcases List.mem_append.mp hq with hq | hq
    · exact hps q hq
    · have : q = (PL[r2], GL[r1]) := by simpa using hq
      subst this
      exact ⟨List.getElem_mem hp, List.getElem_mem hg⟩
theorem l_loop (hP : Has P) (hn : 1 ≤ n) {s : D} {is : List Int} {a : Int} {r : Nat} (hr : r < 31) (ha : 0 ≤ a) : ∃ env' st', forD (asg (callN P n) (.name 5)) (exs (callN P n) lB) (rangeL 0 r) [some (.d s), some (.loc 0), some (.loc 2), some (.d (.str [])), some (.loc 3), none, none, none, none, none] (St a is [] []) = .ok (.nx env') st' ∧ LI s is r env' st' := by
  obtain ⟨env', st', h1, h2⟩ := forD_inv (g := asg (callN P n) (.name 5)) (b := exs (callN P n) lB) (fun j env st => LI s is j env st) (rangeL 0 r) 0 [some (.d s), some (.loc 0), some (.loc 2), some (.d (.str [])), some (.loc 3), none, none, none, none, none] (St a is [] [])
    ⟨none, none, none, a, [], [], rfl, rfl, ha, rfl, Nat.le_refl _, fun q hq => by cases hq⟩ (by
      intro i x env st hx hi
      obtain ⟨h3, rfl⟩ := range_get hx
      obtain ⟨env2, st2, g1, g2⟩ := l_turn hP hn (k := .d (.int (0 + i))) (by omega : 0 + i < 31) hi
      exact ⟨_, _, env2, st2, asg_name, .inl g1, g2⟩)
  refine ⟨env', st', h1, ?_⟩
  rw [range_len, Nat.zero_add] at h2
  exact h2
end
end PX
/-! M00e: the law k00, whole. -/
namespace PX
open PI

section
variable {P : List Fn} {n : Nat}
theorem bl_len : ∀ q ∈ BL, q.1.length ≤ 20 := by decide
abbrev rest1 : List S := [.if_ (.or (.not (.call 6 [.bcall .tuple [.call 1 [.v 3]], .bcall .tuple [.v 4]])) (.cmp .isnt (.call 7 [.v 3]) (.c .non))) retF [],
  .if_ (.not (.call 6 [.bcall .tuple [.call 1 [.c (.str [120, 46, 110, 101, 120, 116, 61, 121, 59])]], fxE])) retF [],
  .asg (.name 6) bdE, .asg (.tup [8, 9]) (.ix (.v 6) (.call 5 [.v 1, .c (.int 6)])),
  .if_ (.not (.call 6 [.call 7 [.bin .add (.bin .add (.v 3) (.v 8)) (.c (.str [32, 48, 32, 38]))], .tup [.bcall .len [.v 3], .v 9]])) retF [],
  .ret (.cmp .is (.call 7 [.bin .add (.bin .add (.v 3) (.c (.str [35, 32]))) (.v 8)]) (.c .non))]
theorem l_rest (hP : Has P) (hn : 5 ≤ n) {s : D} {is : List Int} {r : Nat} {env : Env} {st : Store} (hr : r < 31) (h : LI s is r env st) : ∃ st2, exs (callN P n) rest1 env st = .ok (.rt (.d (.bl true))) st2 := by
  obtain ⟨e5, e7, e8, a, ps, junk, rfl, rfl, ha, hl, ht, hps⟩ := h
  have hb : big = 16777216 := rfl
  have k0 : Tk (textOf ps) 0 [] (.ok (duesOf 0 ps)) := by
    have := tk_all (ps := ps) (tail := []) (p := 0) (ds := []) (res := .ok (duesOf 0 ps)) hps .nil
    rw [List.append_nil] at this
    exact this
  have t0 : (textOf ps).length < 900000 := by omega
  -- the first test
  have c1 := tokens_ok hP (n := n) (st := St a is (duesOf 0 ps) junk) (by omega) t0 k0
  rw [St_len, St_app] at c1
  have c2 : PI.bcall .tuple [.loc (junk.length + 4)] (St a is (duesOf 0 ps) (junk ++ [.lst (duesOf 0 ps)])) = .ok (.d (.tup (duesOf 0 ps))) (St a is (duesOf 0 ps) (junk ++ [.lst (duesOf 0 ps)])) := tuple_loc St_at
  have c3 : PI.bcall .tuple [.loc 3] (St a is (duesOf 0 ps) (junk ++ [.lst (duesOf 0 ps)])) = .ok (.d (.tup (duesOf 0 ps))) (St a is (duesOf 0 ps) (junk ++ [.lst (duesOf 0 ps)])) := tuple_loc (l := 3) rfl
  have c4 := same_dues hP (n := n) (st := St a is (duesOf 0 ps) (junk ++ [.lst (duesOf 0 ps)])) (ps := ps) (p := 0) (by omega) (by omega)
  have c5 := fault_ok hP (n := n) (st := St a is (duesOf 0 ps) (junk ++ [.lst (duesOf 0 ps)])) (by omega) t0 k0
  rw [exs_cons, ex_if]
  simp only [tr_eq, ev_or, ev_not, ev_call, ev_bcall, evs_cons, evs_nil, ev_v, bind_ok, List.getElem?_cons_succ, List.getElem?_cons_zero, c1, c2, c3, c4, ofO_some, tru_bl, Bool.not_true, if_F, Bool.false_eq_true, ev_cmp, c5, ev_c, isnt_non, non_non, Option.map_some, exs_nil]
  -- the second
  generalize hj2 : junk ++ [Obj.lst (duesOf 0 ps)] = junk2
  have d1 := tokens_ok hP (n := n) (st := St a is (duesOf 0 ps) junk2) (by omega) (by decide) tk_fix
  rw [St_len, St_app] at d1
  have d2 : PI.bcall .tuple [.loc (junk2.length + 4)] (St a is (duesOf 0 ps) (junk2 ++ [.lst fxD])) = .ok (.d (.tup fxD)) (St a is (duesOf 0 ps) (junk2 ++ [.lst fxD])) := tuple_loc St_at
  have d4 : callN P n 6 [.d (.tup fxD), .d (.tup fxD)] (St a is (duesOf 0 ps) (junk2 ++ [.lst fxD])) = .ok (.d (.bl true)) (St a is (duesOf 0 ps) (junk2 ++ [.lst fxD])) := by
    obtain ⟨N, rfl⟩ : ∃ N, n = N + 1 := ⟨n - 1, by omega⟩
    refine same_call hP 2 _ N _ (by decide) (by decide) ⟨by decide, fun x hx => ?_⟩ (by omega)
    simp only [fxD, List.mem_cons, List.not_mem_nil, or_false] at hx
    rcases hx with rfl | rfl | rfl | rfl | rfl | rfl <;> exact ⟨by simp, fun y hy => trivial⟩
  rw [exs_cons, ex_if]
  simp only [tr_eq, ev_not, ev_call, ev_bcall, evs_cons, evs_nil, ev_c, bind_ok, d1, show ([.tup [.str [120], .int 0], .tup [.str [46], .int 1], .tup [.str [110, 101, 120, 116], .int 2], .tup [.str [61], .int 6], .tup [.str [121], .int 7], .tup [.str [59], .int 8]] : List D) = fxD from rfl, d2, ev_fx, d4, ofO_some, tru_bl, Bool.not_true, if_F, Bool.false_eq_true, exs_nil]
  -- the wrong piece
  generalize hj3 : junk2 ++ [Obj.lst fxD] = junk3
  rw [exs_cons, ex_asg, ev_bd, bind_ok, asg_name, bind_ok, bind_ok, St_len, St_app]
  obtain ⟨r1, hr1, f1⟩ := draw_St hP (n := n) (a := a) (is := is) (due := duesOf 0 ps) (junk := junk3 ++ [.lst BLD]) (m := 6) (by omega) ha (by decide)
  have hg : r1 < BL.length := by show r1 < 6; omega
  have i1 : index (.loc (junk3.length + 4)) (.d (.int r1)) (St (a + 1) is (duesOf 0 ps) (junk3 ++ [.lst BLD])) = .ok (.d (.tup [.str BL[r1].1, .str BL[r1].2])) (St (a + 1) is (duesOf 0 ps) (junk3 ++ [.lst BLD])) := by
    refine index_loc St_at (ixN_nat (by show r1 < (BL.map fun q => D.tup [.str q.1, .str q.2]).length; rw [List.length_map]; exact hg)) ?_
    show (BL.map fun q => D.tup [.str q.1, .str q.2])[r1]? = _
    simp [hg]
  have hq := List.getElem_mem hg
  generalize hqe : BL[r1] = q at *
  have hql := bl_len q hq
  simp only [List.set_cons_succ, List.set_cons_zero]
  rw [exs_cons, ex_asg]
  simp only [ev_ix, ev_v, ev_call, evs_cons, evs_nil, ev_c, bind_ok, List.getElem?_cons_succ, List.getElem?_cons_zero, f1, i1, asg_tup, setAll_cons, setAll_nil, ofO_some, List.set_cons_succ, List.set_cons_zero]
  generalize hj4 : junk3 ++ [Obj.lst BLD] = junk4
  -- its fault
  have s1 : (textOf ps).length + q.1.length ≤ big := by omega
  have s2 : (textOf ps ++ q.1).length + [32, 48, 32, 38].length ≤ big := by rw [List.length_append]; show _ + 4 ≤ _; omega
  have kb : Tk (textOf ps ++ q.1 ++ [32, 48, 32, 38]) 0 [] (.ex ⟨1, [.str q.2, .int (textOf ps).length]⟩) := by
    rw [List.append_assoc]
    refine tk_all (p := 0) hps ?_
    rw [Nat.zero_add]
    exact tk_bad hq
  have g1 := fault_ex hP (n := n) (st := St (a + 1) is (duesOf 0 ps) junk4) (by omega) (by rw [List.length_append, List.length_append]; show _ + 4 < _; omega) kb
  have g2 : callN P n 6 [.d (.tup [.int (textOf ps).length, .str q.2]), .d (.tup [.int (textOf ps).length, .str q.2])] (St (a + 1) is (duesOf 0 ps) junk4) = .ok (.d (.bl true)) (St (a + 1) is (duesOf 0 ps) junk4) := by
    obtain ⟨N, rfl⟩ : ∃ N, n = N + 1 := ⟨n - 1, by omega⟩
    exact same_call hP 1 _ N _ rfl rfl ⟨by simp, fun x hx => trivial⟩ (by omega)
  rw [exs_cons, ex_if]
  simp only [tr_eq, ev_not, ev_call, ev_bcall, evs_cons, evs_nil, ev_c, ev_v, ev_bin, ev_tup, bind_ok, List.getElem?_cons_succ, List.getElem?_cons_zero, add_str s1, add_str s2, g1, len_str, List.mapM_cons, List.mapM_nil, Val.data?, Option.pure_def, Option.bind_eq_bind, Option.bind_some, List.length_cons, List.length_nil, Nat.reduceAdd, datas, if_pos (show 2 ≤ big by decide), g2, ofO_some, tru_bl, Bool.not_true, if_F, Bool.false_eq_true, exs_nil]
  -- behind a remark
  have s3 : (textOf ps).length + [35, 32].length ≤ big := by show _ + 2 ≤ _; omega
  have s4 : (textOf ps ++ [35, 32]).length + q.1.length ≤ big := by rw [List.length_append]; show _ + 2 + _ ≤ _; omega
  have kr : Tk (textOf ps ++ [35, 32] ++ q.1) 0 [] (.ok (duesOf 0 ps)) := by
    rw [List.append_assoc]
    exact tk_all (p := 0) hps (tk_rem hq)
  have h1 := fault_ok hP (n := n) (st := St (a + 1) is (duesOf 0 ps) junk4) (by omega) (by rw [List.length_append, List.length_append]; show _ + 2 + _ < _; omega) kr
  refine ⟨St (a + 1) is (duesOf 0 ps) junk4, ?_⟩
  rw [exs_cons, ex_ret]
  simp only [ev_call, evs_cons, evs_nil, ev_c, ev_v, ev_bin, ev_cmp, bind_ok, List.getElem?_cons_succ, List.getElem?_cons_zero, add_str s3, add_str s4, h1, is_non, non_non, Option.map_some, ofO_some]
theorem box_n (hP : Has P) {st : Store} {is : List Int} (hn : 3 ≤ n) : ∃ ds : List Int, callN P n 2 [.d (.lst (is.map .int)), .d (.int 0), .d (.int 62)] st = .ok (.loc st.length) (st ++ [.lstV [.loc (st.length + 1), .d (.int 0)], .lst (ds.map .int)]) := by
  obtain ⟨N, rfl⟩ : ∃ N, n = N + 1 + 1 + 1 := ⟨n - 3, by omega⟩
  exact box_call hP (N := N) (is := is) (last := 62) (by decide)
theorem law_true (hP : Has P) (hn : 6 ≤ n) (ns : List Int) : ∃ st, callN P n 8 [.d (.lst (ns.map .int))] [] = .ok (.d (.bl true)) st := by
  obtain ⟨N, rfl⟩ : ∃ N, n = N + 1 := ⟨n - 1, by omega⟩
  obtain ⟨is, hbx⟩ := box_n hP (n := N) (st := []) (is := ns) (by omega)
  obtain ⟨r, hr, d1⟩ := draw_St hP (n := N) (a := 0) (is := is) (due := []) (junk := []) (m := 31) (by omega) (by decide) (by decide)
  obtain ⟨env', st', h1, h2⟩ := l_loop hP (n := N) (s := .lst (ns.map .int)) (is := is) (a := 0 + 1) (r := r) (by omega) (by omega) (by decide)
  obtain ⟨st2, h3⟩ := l_rest hP (n := N) (by omega) (by omega) h2
  have hf : fo (callN P N) (.name 5) (.r1 (.call 5 [.v 1, .c (.int 31)])) lB [some (.d (.lst (ns.map .int))), some (.loc 0), some (.loc 2), some (.d (.str [])), some (.loc 3), none, none, none, none, none] (St 0 is [] []) = .ok (.nx env') st' := by
    rw [fo_d (evIt_r1 (n := r) (st1 := St (0 + 1) is [] []) (by simp only [ev_call, evs_cons, evs_nil, ev_c, ev_v, bind_ok, List.getElem?_cons_succ, List.getElem?_cons_zero, d1]) (rngOk_nat (by omega)))]
    exact h1
  have key : runF (callN P N) F_law [.d (.lst (ns.map .int))] [] = .ok (.d (.bl true)) st2 := by
    rw [F_lw]
    simp only [runF, List.length_cons, List.length_nil, if_true, List.map_cons, List.map_nil, List.replicate, List.cons_append, List.nil_append, Nat.reduceAdd, Nat.reduceSub]
    have b1 : ev (callN P N) (.call 2 [.v 0, .c (.int 0), .c (.int 62)]) [some (.d (.lst (ns.map .int))), none, none, none, none, none, none, none, none, none] [] = .ok (.loc 0) [.lstV [.loc 1, .d (.int 0)], .lst (is.map .int)] := by
      simp only [ev_call, evs_cons, evs_nil, ev_c, ev_v, bind_ok, List.getElem?_cons_succ, List.getElem?_cons_zero, hbx]
      rfl
    rw [exs_nx (ex_set b1), exs_nx (ex_set ev_pc), exs_nx (ex_set ev_c), exs_nx (ex_set ev_lst_nil)]
    simp only [List.set_cons_succ, List.set_cons_zero, List.length_nil, List.nil_append, List.cons_append, List.length_cons, Nat.reduceAdd]
    rw [exs_nx (ex_for.trans hf)]
    show (exs (callN P N) rest1 env' st').bind _ = _
    rw [h3, bind_ok]
  have := callN_d (st := []) (ds := [.lst (ns.map .int)]) hP.law key
  simp only [List.map_cons, List.map_nil] at this
  exact ⟨_, this⟩
end
end PX
theorem PySem.Challenge.cw_sureheaps_k00_texts_as_tokens_holds : PySem.Challenge.rw_sureheaps_k00_texts_as_tokens.Holds := by
  exact PI.holds fun ns _ => PX.law_true PI.has (by decide) ns
